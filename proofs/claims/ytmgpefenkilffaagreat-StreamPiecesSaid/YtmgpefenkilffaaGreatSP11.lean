/- Texts of this proof: U2. -/
import Derived.Test.YtmgpefenkilffaaGreatSP07
set_option linter.all false
set_option maxRecDepth 100000
set_option maxHeartbeats 8000000
namespace Go.Proofs.YtmgpefenkilffaaGreat
section
open Go.RowKit
attribute [local go_sem ↓] Go.wp_at_zero Go.wp_at_succ
theorem Fo.app_assoc:∀f g h:Fo,(f.app g).app h=f.app (g.app h)
 | .nil,_,_=>rfl
 | .cons _ _ _ _ _ _ r,g,h=>by simp[Fo.app,Fo.app_assoc r g h]
theorem Fo.app_nil:∀f:Fo,f.app .nil=f
 | .nil=>rfl
 | .cons _ _ _ _ _ _ r=>by simp[Fo.app,Fo.app_nil r]
theorem lone_any (p e:Int)(hp:0<=p)(he : -1<=e)(ip:I64 p)(ie:I64 e)(w:World) :
 Calls Tryz.prog 139 #[.int .i64 p,.int .i64 e] w (fun en w'=>∃b,en=.returned (.pointer (some ⟨b,0,none⟩))/\w.heap.size<=b/\(grp b p e none 0 .nil).At w'/\Ext w w'):=by
 go_enter Tryz.func139,Tryz.ntmps139;have B:=Blk.new w 250 #[.int .i64 p,.int .i64 e,.slice none 0 0];have E:=Ext.alloc w (.cells #[.int .i64 p,.int .i64 e,.slice none 0 0] 250)
 go_upto_region 1 with fail
 go_wp2_with fail
 go_ret
 exact⟨w.heap.size,rfl,Nat.le_refl _,⟨B,OwnS.nil _ _ _ _,.inl ⟨hp,rfl⟩,om,he,ip,ie,trivial,trivial⟩,E⟩
def RetR (I:List (Int×Int)->World->Prop)(R:List (Int×Int))(e:Ending)(w':World):Prop:=e=.returned (.tuple #[])/\I R w'
def VisR (z1 z2:Nat)(I:List (Int×Int)->World->Prop):Prop:=
 ∀(R:List (Int×Int)) (p e:Int) (w:World),I R w->R.length<1000000->0<=p->-1<=e->I64 p->I64 e->Calls Tryz.prog 148 #[.int .i64 p,.int .i64 e,.pointer (some ⟨z1,0,none⟩),.pointer (some ⟨z2,0,none⟩)] w (RetR I (R++[(p,e)]))
theorem U2z1 {P:Prop} (h:P:=by
 subst hlt;go_enter Tryz.func146,Tryz.ntmps146
 go_upto_region 5 with fail
 go_loopw [31] (fun v wr=>∃(g0 g:Fo),k=g0.app g/\v=.int .i64 g0.len/\I (pre++g0.pos lt) wr) (fun v _=>k.len-(intOf v).toNat)
 case atStart=>exact⟨.nil,k,rfl,rfl,by simpa[Fo.pos] using HH.out⟩
 case round=>
  obtain⟨g0,g,hk,rfl,hI⟩:=hrel;have hgl:=lh (show k.len=g0.len+g.len by rw[hk,Fo.len_app])
  cases g with
  | nil=>
   have hkI:¬(g0.len:Int)<k.len:=by have h9:=hgl.out;simp only[Fo.len] at h9;omega
   have hkk:k=g0:=by rw[hk,Fo.app_nil]
   rw[<-hkk] at hI;clear hk hkk
   go_wp2_with fail
   exact bodyPost_end (v:=.tuple #[]) (by simp[results,Tryz.results146,go_sem]) rfl ⟨rfl,hI⟩
  | cons b2 p2 e2 A2 c2 k2 r2=>
   have hkI:(g0.len:Int)<k.len:=by have h9:=hgl.out;simp only[Fo.len] at h9;omega
   obtain⟨_,ho2,_⟩:=HAA.out _ _ hI;have hne:k.ptrs≠[]:=by rw[hk,Fo.ptrs_app];simp[Fo.ptrs]
   obtain⟨ab,ao,hA,hc⟩:=OwnS.cells ho2 hne;have hpl:g0.len<k.ptrs.length:=by rw[Fo.ptrs_len];omega
   have HKI:=lh hkI;have hpe:k.ptrs[g0.len]'hpl=.pointer (some ⟨b2,0,none⟩):=by
    have e1:k.ptrs=g0.ptrs++(.pointer (some ⟨b2,0,none⟩)::r2.ptrs):=by rw[hk,Fo.ptrs_app];rfl
    simp only[e1];rw[List.getElem_append_right (by rw[Fo.ptrs_len];omega)];simp[Fo.ptrs_len]
   have hc2:=hc g0.len hpl;rw[hpe] at hc2;clear hc ho2 hne;have HC:=HKK.out g0 b2 p2 e2 A2 c2 k2 r2 hk lt (pre++g0.pos lt) wr hI hlt1.1 hlt1.2 (by
    have h9:=HLM.out;rw[hk,Fo.pos_app] at h9;have h8:(Fo.cons b2 p2 e2 A2 c2 k2 r2).pos lt=(grp b2 p2 e2 A2 c2 k2).pos lt++r2.pos lt:=by rw[grp_pos];rfl
    rw[h8] at h9;simp only[List.length_append] at h9 ⊢;omega)
   have hk2:k=(g0.app (grp b2 p2 e2 A2 c2 k2)).app r2:=by rw[Fo.app_assoc,hk];rfl
   have hps:pre++g0.pos lt++(grp b2 p2 e2 A2 c2 k2).pos lt=pre++(g0.app (grp b2 p2 e2 A2 c2 k2)).pos lt:=by rw[Fo.pos_app,List.append_assoc]
   rw[hps] at HC;have hl2:(g0.app (grp b2 p2 e2 A2 c2 k2)).len=g0.len+1:=by rw[Fo.len_app];rfl
   have HL2:=lh hl2;have HK2:=lh hk2;have HK0:=lh hk;have hA':=hA;subst hA';clear hk hk2 hl2 hps hpe hpl
   go_wp2_with fail
   refine HC.out.mono ?_;rintro en w1 ⟨rfl,h1⟩
   go_wp2_with fail
   go_roundw
   case rel=>exact⟨g0.app (grp b2 p2 e2 A2 c2 k2),r2,HK2.out,by rw[HL2.out];go_num,h1⟩
   case measure=>have:=HKI.out;simp[intOf];omega):P:=h
theorem U2z4 {P:Prop} (h:P:=by
 subst hlt;go_enter Tryz.func146,Tryz.ntmps146
 go_wp2_with fail
 refine(hvis _ HH.out).out.mono ?_;rintro en w1 ⟨rfl,h1⟩
 go_wp2_with fail
 exact bodyPost_end (v:=.tuple #[]) (by simp[results,Tryz.results146,go_sem]) rfl ⟨rfl,h1⟩):P:=h
theorem U2z2 {P:Prop} (h:P:=by
 have hpl:pre.length<1000000:=by have h9:=HLN.out;rw[if_pos hp] at h9;exact h9
 have hvis:=fun(w':World) (hI:I pre w')=>lh (HV.out pre p lt w' hI hpl hp hlt1.1 ip hlt1.2);clear hpl;rw[if_pos hp];by_cases hla:later<0
 ·rw[if_pos hla] at hlt;exact U2z4
 ·rw[if_neg hla] at hlt;exact U2z4):P:=h
theorem U2z3 {P:Prop} (h:P:=by
 have HLM:=lh (show(pre++k.pos lt).length<=1000000 by have h9:=HLN.out;rw[if_neg hp] at h9;exact h9);rw[if_neg hp];have HFIN:∀(s:World->Prop),(∀w',I (pre++k.pos lt) w'->s w')->∀w',I (pre++k.pos lt) w'->s w':=fun s h=>h;by_cases hla:later<0
 ·rw[if_pos hla] at hlt;exact U2z1
 ·rw[if_neg hla] at hlt;exact U2z1):P:=h
theorem nodeR (z1 z2:Nat)(I:List (Int×Int)->World->Prop)(hX:∀R w w',I R w->Ext w w'->I R w')(hV:VisR z1 z2 I)
 (b:Nat) (p e:Int) (A:Option Addr) (c:Nat) (k:Fo) (HA:∀R w,I R w->(grp b p e A c k).At w)
 (HK:∀(g0:Fo) (b2:Nat) (p2 e2:Int) (A2:Option Addr) (c2:Nat) (k2 r2:Fo),k=g0.app (.cons b2 p2 e2 A2 c2 k2 r2)->∀(later:Int) (pre:List (Int×Int)) (w:World),I pre w->-1<=later->I64 later->(pre++(grp b2 p2 e2 A2 c2 k2).pos later).length<=1000000->
  Hid (Calls Tryz.prog 146 #[.pointer (some ⟨b2,0,none⟩),.int .i64 later,.func (.func 148) #[] #[.pointer (some ⟨z1,0,none⟩),.pointer (some ⟨z2,0,none⟩)]] w (RetR I (pre++(grp b2 p2 e2 A2 c2 k2).pos later))))
 (later:Int) (pre:List (Int×Int)) (w:World) (h:I pre w) (hl : -1<=later) (il:I64 later) (hL:(pre++(grp b p e A c k).pos later).length<=1000000) :
 Calls Tryz.prog 146 #[.pointer (some ⟨b,0,none⟩),.int .i64 later,.func (.func 148) #[] #[.pointer (some ⟨z1,0,none⟩),.pointer (some ⟨z2,0,none⟩)]] w (RetR I (pre++(grp b p e A c k).pos later)):=by
 obtain⟨hb,ho,hpk,hp1,he1,ip,ie,hk,_⟩:=HA _ _ h;have k0:∀w',Ext w w'->w'.cell? ⟨b,0,none⟩=some (.int .i64 p):=fun w' x=>(hb.ext x).cell 0;have k1:∀w',Ext w w'->w'.cell? ⟨b,1,none⟩=some (.int .i64 e):=fun w' x=>(hb.ext x).cell 1;have k2:∀w',Ext w w'->w'.cell? ⟨b,2,none⟩=some (.slice A k.len c):=fun w' x=>(hb.ext x).cell 2;have d0:=k0 w (Ext.rfl' _);have d1:=k1 w (Ext.rfl' _);have d2:=k2 w (Ext.rfl' _);have hcap:=OwnS.form ho;have hkc:k.len<=9223372036854775807:=by
  rcases OwnS.form ho with⟨_,h2,_⟩|⟨_,_,_,_,_,h2,h3,_⟩
  ·omega
  ·unfold maxLen at h3;omega
 clear k0 k1 k2;obtain⟨lt,hlt⟩:∃lt:Int,lt=if later<0 then e else later:=⟨_,rfl⟩
 have hlt1 : -1<=lt/\I64 lt:=by subst hlt;split;exact⟨he1,ie⟩;exact⟨hl,il⟩
 have HP:Hid ((grp b p e A c k).pos later=if 0<=p then[(p,lt)] else k.pos lt):=lh (by rw[grp_pos,hlt]);have HLN:Hid (if 0<=p then pre.length<1000000 else(pre++k.pos lt).length<=1000000):=lh (by
  rw[HP.out] at hL
  split
  ·next h0=>rw[if_pos h0] at hL;simp only[List.length_append,List.length_cons,List.length_nil] at hL;omega
  ·next h0=>rw[if_neg h0] at hL;exact hL)
 have HV:=lh hV;have HH:=lh h;have HKK:=lh HK;have HAA:=lh HA;have HHX:=lh hX;clear hb ho hk h hcap HK HA hX hV hL;rw[HP.out];by_cases hp:0<=p
 ·exact U2z2
 ·exact U2z3
theorem eachR (z1 z2:Nat)(I:List (Int×Int)->World->Prop)(hX:∀R w w',I R w->Ext w w'->I R w')(hV:VisR z1 z2 I) :
 ∀(f:Fo),(∀R w,I R w->f.At w)->∀(g0:Fo) (b2:Nat) (p2 e2:Int) (A2:Option Addr) (c2:Nat) (k2 r2:Fo),f=g0.app (.cons b2 p2 e2 A2 c2 k2 r2)->∀(later:Int) (pre:List (Int×Int)) (w:World),I pre w->-1<=later->I64 later->(pre++(grp b2 p2 e2 A2 c2 k2).pos later).length<=1000000->
  Hid (Calls Tryz.prog 146 #[.pointer (some ⟨b2,0,none⟩),.int .i64 later,.func (.func 148) #[] #[.pointer (some ⟨z1,0,none⟩),.pointer (some ⟨z2,0,none⟩)]] w (RetR I (pre++(grp b2 p2 e2 A2 c2 k2).pos later)))
 | .nil,_,g0,_,_,_,_,_,_,_,hf,_,_,_,_,_,_,_=>by
  cases g0<;>simp[Fo.app] at hf
 | .cons b p e A c k r,HA,g0,b2,p2,e2,A2,c2,k2,r2,hf,later,pre,w,h,hl,il,hL=>by
  have hK:=eachR z1 z2 I hX hV k (fun R w hI=>(HA R w hI).2.2.2.2.2.2.2.1);have hR:=eachR z1 z2 I hX hV r (fun R w hI=>(HA R w hI).2.2.2.2.2.2.2.2)
  cases g0 with
  | nil=>
   simp only[Fo.app,Fo.cons.injEq] at hf;obtain⟨rfl,rfl,rfl,rfl,rfl,rfl,rfl⟩:=hf;exact lh (nodeR z1 z2 I hX hV b p e A c k (fun R w hI=>by
    obtain⟨h1,h2,h3,h4,h5,h6,h7,h8,_⟩:=HA R w hI;exact⟨h1,h2,h3,h4,h5,h6,h7,h8,trivial⟩) hK later pre w h hl il hL)
  | cons b0 p0 e0 A0 c0 k0 r0=>
   simp only[Fo.app,Fo.cons.injEq] at hf;obtain⟨rfl,rfl,rfl,rfl,rfl,rfl,rfl⟩:=hf;exact hR r0 b2 p2 e2 A2 c2 k2 r2 rfl later pre w h hl il hL
def RetC (I:List (Int×Int)->World->Prop)(R:List (Int×Int))(e:Ending)(w':World):Prop:=e=.returned (.tuple #[])/\I R w'
def VisC (z1:Nat)(I:List (Int×Int)->World->Prop):Prop:=
 ∀(R:List (Int×Int)) (p e:Int) (w:World),I R w->R.length<1000000->0<=p->-1<=e->I64 p->I64 e->Calls Tryz.prog 147 #[.int .i64 p,.int .i64 e,.pointer (some ⟨z1,0,none⟩)] w (RetC I (R++[(p,e)]))
theorem nodeC (z1:Nat)(I:List (Int×Int)->World->Prop)(hX:∀R w w',I R w->Ext w w'->I R w')(hV:VisC z1 I)
 (b:Nat) (p e:Int) (A:Option Addr) (c:Nat) (k:Fo) (HA:∀R w,I R w->(grp b p e A c k).At w)
 (HK:∀(g0:Fo) (b2:Nat) (p2 e2:Int) (A2:Option Addr) (c2:Nat) (k2 r2:Fo),k=g0.app (.cons b2 p2 e2 A2 c2 k2 r2)->∀(later:Int) (pre:List (Int×Int)) (w:World),I pre w->-1<=later->I64 later->(pre++(grp b2 p2 e2 A2 c2 k2).pos later).length<=1000000->
  Hid (Calls Tryz.prog 146 #[.pointer (some ⟨b2,0,none⟩),.int .i64 later,.func (.func 147) #[] #[.pointer (some ⟨z1,0,none⟩)]] w (RetC I (pre++(grp b2 p2 e2 A2 c2 k2).pos later))))
 (later:Int) (pre:List (Int×Int)) (w:World) (h:I pre w) (hl : -1<=later) (il:I64 later) (hL:(pre++(grp b p e A c k).pos later).length<=1000000) :
 Calls Tryz.prog 146 #[.pointer (some ⟨b,0,none⟩),.int .i64 later,.func (.func 147) #[] #[.pointer (some ⟨z1,0,none⟩)]] w (RetC I (pre++(grp b p e A c k).pos later)):=by
 obtain⟨hb,ho,hpk,hp1,he1,ip,ie,hk,_⟩:=HA _ _ h;have k0:∀w',Ext w w'->w'.cell? ⟨b,0,none⟩=some (.int .i64 p):=fun w' x=>(hb.ext x).cell 0;have k1:∀w',Ext w w'->w'.cell? ⟨b,1,none⟩=some (.int .i64 e):=fun w' x=>(hb.ext x).cell 1;have k2:∀w',Ext w w'->w'.cell? ⟨b,2,none⟩=some (.slice A k.len c):=fun w' x=>(hb.ext x).cell 2;have d0:=k0 w (Ext.rfl' _);have d1:=k1 w (Ext.rfl' _);have d2:=k2 w (Ext.rfl' _);have hcap:=OwnS.form ho;have hkc:k.len<=9223372036854775807:=by
  rcases OwnS.form ho with⟨_,h2,_⟩|⟨_,_,_,_,_,h2,h3,_⟩
  ·omega
  ·unfold maxLen at h3;omega
 clear k0 k1 k2;obtain⟨lt,hlt⟩:∃lt:Int,lt=if later<0 then e else later:=⟨_,rfl⟩
 have hlt1 : -1<=lt/\I64 lt:=by subst hlt;split;exact⟨he1,ie⟩;exact⟨hl,il⟩
 have HP:Hid ((grp b p e A c k).pos later=if 0<=p then[(p,lt)] else k.pos lt):=lh (by rw[grp_pos,hlt]);have HLN:Hid (if 0<=p then pre.length<1000000 else(pre++k.pos lt).length<=1000000):=lh (by
  rw[HP.out] at hL
  split
  ·next h0=>rw[if_pos h0] at hL;simp only[List.length_append,List.length_cons,List.length_nil] at hL;omega
  ·next h0=>rw[if_neg h0] at hL;exact hL)
 have HV:=lh hV;have HH:=lh h;have HKK:=lh HK;have HAA:=lh HA;have HHX:=lh hX;clear hb ho hk h hcap HK HA hX hV hL;rw[HP.out];by_cases hp:0<=p
 ·exact U2z2
 ·exact U2z3
theorem eachC (z1:Nat)(I:List (Int×Int)->World->Prop)(hX:∀R w w',I R w->Ext w w'->I R w')(hV:VisC z1 I) :
 ∀(f:Fo),(∀R w,I R w->f.At w)->∀(g0:Fo) (b2:Nat) (p2 e2:Int) (A2:Option Addr) (c2:Nat) (k2 r2:Fo),f=g0.app (.cons b2 p2 e2 A2 c2 k2 r2)->∀(later:Int) (pre:List (Int×Int)) (w:World),I pre w->-1<=later->I64 later->(pre++(grp b2 p2 e2 A2 c2 k2).pos later).length<=1000000->
  Hid (Calls Tryz.prog 146 #[.pointer (some ⟨b2,0,none⟩),.int .i64 later,.func (.func 147) #[] #[.pointer (some ⟨z1,0,none⟩)]] w (RetC I (pre++(grp b2 p2 e2 A2 c2 k2).pos later)))
 | .nil,_,g0,_,_,_,_,_,_,_,hf,_,_,_,_,_,_,_=>by
  cases g0<;>simp[Fo.app] at hf
 | .cons b p e A c k r,HA,g0,b2,p2,e2,A2,c2,k2,r2,hf,later,pre,w,h,hl,il,hL=>by
  have hK:=eachC z1 I hX hV k (fun R w hI=>(HA R w hI).2.2.2.2.2.2.2.1);have hR:=eachC z1 I hX hV r (fun R w hI=>(HA R w hI).2.2.2.2.2.2.2.2)
  cases g0 with
  | nil=>
   simp only[Fo.app,Fo.cons.injEq] at hf;obtain⟨rfl,rfl,rfl,rfl,rfl,rfl,rfl⟩:=hf;exact lh (nodeC z1 I hX hV b p e A c k (fun R w hI=>by
    obtain⟨h1,h2,h3,h4,h5,h6,h7,h8,_⟩:=HA R w hI;exact⟨h1,h2,h3,h4,h5,h6,h7,h8,trivial⟩) hK later pre w h hl il hL)
  | cons b0 p0 e0 A0 c0 k0 r0=>
   simp only[Fo.app,Fo.cons.injEq] at hf;obtain⟨rfl,rfl,rfl,rfl,rfl,rfl,rfl⟩:=hf;exact hR r0 b2 p2 e2 A2 c2 k2 r2 rfl later pre w h hl il hL
end
end Go.Proofs.YtmgpefenkilffaaGreat
