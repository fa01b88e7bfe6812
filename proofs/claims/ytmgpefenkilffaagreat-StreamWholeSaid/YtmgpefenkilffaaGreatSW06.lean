/- Texts of this proof: K12 U2. -/
import Derived.Test.YtmgpefenkilffaaGreatSW03
set_option linter.all false
set_option maxRecDepth 100000
set_option maxHeartbeats 8000000
namespace Go.Proofs.YtmgpefenkilffaaGreat
section
open Go.RowKit
attribute [local go_sem ↓] Go.wp_at_zero Go.wp_at_succ
def RetOut (runes:Bool)(w:World)(e:Ending)(w':World):Prop:=
 ∃(a b:Nat),e=.returned (.func (Fn.func 207) #[] #[.pointer (some ⟨a,0,none⟩),.pointer (some ⟨b,0,none⟩)])/\w'.cell? ⟨a,0,none⟩=some (.int .i64 (topV runes))/\w'.cell? ⟨b,0,none⟩=some (.bool runes)/\Ext w w'
theorem outside_any (runes:Bool)(w:World):Calls Tryz.prog 136 #[.bool runes] w (RetOut runes w):=by
 have hb:=Blk.new w 4 #[.bool runes];have e1:=Ext.alloc w (.cells #[.bool runes] 4);have h1:=fun(t:Int)=>(hb.ext (Ext.alloc (w.alloc (.cells #[.bool runes] 4)) (.cells #[.int .i64 t] 3))).cell 0;have h2:=fun(t:Int)=>(Blk.new (w.alloc (.cells #[.bool runes] 4)) 3 #[.int .i64 t]).cell 0;simp only[World.size_alloc] at h2;replace h1:=lh h1;replace h2:=lh h2;clear hb e1;cases runes
 ·go_enter Tryz.func136,Tryz.ntmps136
  go_wp2
  go_ret
  exact⟨_,_,rfl,h2.out 255,h1.out 255,(Ext.alloc _ _).trans (Ext.alloc _ _)⟩
 ·go_enter Tryz.func136,Tryz.ntmps136
  go_wp2
  go_ret
  exact⟨_,_,rfl,h2.out 1114111,h1.out 1114111,(Ext.alloc _ _).trans (Ext.alloc _ _)⟩
theorem K12z5 {P:Prop} (h:P:=by
 go_enter Tryz.func208,Tryz.ntmps208
 go_wp2
 go_ret
 exact⟨rfl,Ext.rfl' _⟩):P:=h
theorem surr_any (x:Int)(w:World):Calls Tryz.prog 208 #[.int .i64 x] w (RetV (.bool (decide (55296<=x/\x<=57343))) w):=by
 by_cases h1:55296<=x
 ·by_cases h2:x<=57343
  ·rw[decide_eq_true ⟨h1,h2⟩];exact K12z5
  ·rw[decide_eq_false (fun h=>h2 h.2)];exact K12z5
 ·rw[decide_eq_false (fun h=>h1 h.1)];exact K12z5
theorem K12z2 {P:Prop} (h:P:=by
 go_enter Tryz.func207,Tryz.ntmps207
 go_wp2
 go_ret
 exact⟨rfl,Ext.rfl' _⟩):P:=h
theorem K12z4 {P:Prop} (h:P:=by
 clear h3;go_enter Tryz.func207,Tryz.ntmps207
 go_wp2_with fail
 refine(hs _).out.mono ?_;rintro e w1 ⟨rfl,x1⟩
 go_wp2_with fail
 go_ret
 exact⟨rfl,x1⟩):P:=h
theorem outC_any (x:Int)(runes:Bool)(a b:Nat)(w:World)(ha:w.cell? ⟨a,0,none⟩=some (.int .i64 (topV runes)))(hb:w.cell? ⟨b,0,none⟩=some (.bool runes)) :
 Calls Tryz.prog 207 #[.int .i64 x,.pointer (some ⟨a,0,none⟩),.pointer (some ⟨b,0,none⟩)] w (RetV (.bool (!symV runes x)) w):=by
 have hs:=fun(w':World)=>lh (surr_any x w');cases runes
 ·have ht:topV false=255:=rfl;rw[ht] at ha;clear ht hs;by_cases h1:x<0
  ·rw[show symV false x=false by simp[symV];omega];exact K12z2
  ·by_cases h2:255<x
   ·rw[show symV false x=false by simp[symV];omega];exact K12z2
   ·rw[show symV false x=true by simp[symV];omega];exact K12z2
 ·have ht:topV true=1114111:=rfl;rw[ht] at ha;clear ht;by_cases h1:x<0
  ·rw[show symV true x=false by simp[symV];omega];exact K12z2
  ·by_cases h2:1114111<x
   ·rw[show symV true x=false by simp[symV];omega];exact K12z2
   ·by_cases h3:55296<=x/\x<=57343
    ·rw[decide_eq_true h3] at hs;rw[show symV true x=false by simp[symV];omega];exact K12z4
    ·rw[decide_eq_false h3] at hs;rw[show symV true x=true by simp[symV];omega];exact K12z4
theorem allV_bad {runes:Bool}{l:List Int}{k:Nat}(hk:k<l.length)(h:symV runes l[k]=false):l.all (symV runes)=false:=by
 rw[List.all_eq_false];exact⟨l[k],List.getElem_mem hk,by simp[h]⟩
theorem allV_step {runes:Bool}{l:List Int}{k:Nat}(hk:k<l.length)(h0:(l.take k).all (symV runes)=true)(h:symV runes l[k]=true):(l.take (k+1)).all (symV runes)=true:=by
 rw[List.take_succ_eq_append_getElem hk,List.all_append,h0];simp[h]
theorem tindex_any (A:Option Addr)(c:Nat)(l:List Int)(runes:Bool)(a b:Nat)(w:World)(hl:IL w A c l)(ha:w.cell? ⟨a,0,none⟩=some (.int .i64 (topV runes)))(hb:w.cell? ⟨b,0,none⟩=some (.bool runes)) :
 Calls Tryz.prog 206 #[.slice A l.length c,.func (Fn.func 207) #[] #[.pointer (some ⟨a,0,none⟩),.pointer (some ⟨b,0,none⟩)]] w fun e w'=>∃k:Int,e=.returned (.int .i64 k)/\(decide (0<=k) = !l.all (symV runes))/\Ext w w':=by
 obtain⟨a1,a2⟩:=hl.len;go_enter Tryz.func206,Tryz.ntmps206
 go_wp2
 go_loopw [8] (fun i wr=>∃k:Nat,k<=l.length/\i=.int .i64 k/\Hid ((l.take k).all (symV runes)=true)/\Ext w wr) (fun i _=>l.length-(intOf i).toNat)
 case atStart=>exact⟨0,Nat.zero_le _,rfl,rfl,Ext.rfl' _⟩
 case round=>
  obtain⟨k,hk,rfl,ht,hext⟩:=hrel;by_cases hlt:k<l.length
  ·obtain⟨p1,o1,rfl,g1⟩:=hl.get hlt;replace g1:=hext.cell g1;have hlt2:(k:Int)<l.length:=om;have HC:=lh (outC_any l[k] runes a b wr (hext.cell ha) (hext.cell hb));by_cases hs:symV runes l[k]=true
   ·have hs2:=lh (allV_step hlt ht.out hs);rw[hs] at HC;generalize l[k]=y at *;clear hs ht
    go_wp2_with fail
    refine HC.out.mono ?_;rintro e w1 ⟨rfl,hx1⟩;have xf:=hext.trans hx1
    go_wp2
    go_roundw
    case rel=>exact⟨k+1,om,by go_num,hs2,xf⟩
    case measure=>simp[intOf];omega
   ·have hs1:symV runes l[k]=false:=by simpa using hs
    have hbad:=lh (allV_bad hlt hs1);rw[hs1] at HC;generalize l[k]=y at *;clear hs ht hs1
    go_wp2_with fail
    refine HC.out.mono ?_;rintro e w1 ⟨rfl,hx1⟩
    go_wp2
    go_ret
    exact⟨_,rfl,by rw[hbad.out];simp,hext.trans hx1⟩
  ·go_wp2
   go_ret
   have h1:=ht.out;rw[List.take_of_length_le om] at h1;exact⟨_,rfl,by rw[h1];simp,hext⟩
theorem tcontains_any (A:Option Addr)(c:Nat)(l:List Int)(runes:Bool)(a b:Nat)(w:World)(hl:IL w A c l)(ha:w.cell? ⟨a,0,none⟩=some (.int .i64 (topV runes)))(hb:w.cell? ⟨b,0,none⟩=some (.bool runes)) :
 Calls Tryz.prog 135 #[.slice A l.length c,.func (Fn.func 207) #[] #[.pointer (some ⟨a,0,none⟩),.pointer (some ⟨b,0,none⟩)]] w (RetV (.bool (!l.all (symV runes))) w):=by
 have HX:=lh (tindex_any A c l runes a b w hl ha hb);generalize l.all (symV runes)=al at *;cases al
 ·go_enter Tryz.func135,Tryz.ntmps135
  go_wp2_with fail
  refine HX.out.mono ?_;rintro e w2 ⟨k,rfl,hk,x2⟩;have hk0:decide (0<=k)=true:=hk;clear hk
  go_wp2_with fail
  go_ret
  exact⟨rfl,x2⟩
 ·go_enter Tryz.func135,Tryz.ntmps135
  go_wp2_with fail
  refine HX.out.mono ?_;rintro e w2 ⟨k,rfl,hk,x2⟩;have hk0:decide (0<=k)=false:=hk;clear hk
  go_wp2_with fail
  go_ret
  exact⟨rfl,x2⟩
def textE (runes:Bool)(l:List Int):Int:=if 65536<l.length then 4 else if l.all (symV runes)=true then 0 else 5
theorem K12z3 {P:Prop} (h:P:=by
 go_enter Tryz.func64,Tryz.ntmps64
 go_wp2_with fail
 refine HO.out.mono ?_;rintro e w1 ⟨a,b,rfl,h1,h2,x1⟩;have HX2:=HX a b w1 x1 h1 h2;clear HX
 go_wp2_with fail
 refine HX2.out.mono ?_;rintro e w2 ⟨rfl,x2⟩
 go_wp2_with fail
 go_ret
 exact⟨rfl,x1.trans x2⟩):P:=h
theorem tvalid_any (A:Option Addr)(c:Nat)(l:List Int)(runes:Bool)(w:World)(hl:IL w A c l):Calls Tryz.prog 64 #[.slice A l.length c,.bool runes] w (RetV (.int .i64 (textE runes l)) w):=by
 have hcap:=hl.len;by_cases hb:65536<l.length
 ·have hbI:(65536:Int)<l.length:=om;have e:textE runes l=4:=by unfold textE;rw[if_pos hb]
  rw[e];clear e;go_enter Tryz.func64,Tryz.ntmps64
  go_wp2
  go_ret
  exact⟨rfl,Ext.rfl' _⟩
 ·have hbI:¬(65536:Int)<l.length:=om;have HO:=lh (outside_any runes w);have e:textE runes l=if l.all (symV runes)=true then 0 else 5:=by unfold textE;rw[if_neg hb]
  rw[e];clear e hb;have HX:=fun(a b:Nat) (w':World) (x:Ext w w') h1 h2=>lh (tcontains_any A c l runes a b w' (hl.ext x) h1 h2);generalize l.all (symV runes)=al at *;cases al
  ·exact K12z3
  ·exact K12z3
theorem Fo.app_assoc:∀f g h:Fo,(f.app g).app h=f.app (g.app h)
 | .nil,_,_=>rfl
 | .cons _ _ _ _ _ _ r,g,h=>by simp[Fo.app,Fo.app_assoc r g h]
theorem Fo.app_nil:∀f:Fo,f.app .nil=f
 | .nil=>rfl
 | .cons _ _ _ _ _ _ r=>by simp[Fo.app,Fo.app_nil r]
theorem lone_any (p e:Int)(hp:0<=p)(he : -1<=e)(ip:I64 p)(ie:I64 e)(w:World) :
 Calls Tryz.prog 139 #[.int .i64 p,.int .i64 e] w (fun en w'=>∃b,en=.returned (.pointer (some ⟨b,0,none⟩))/\w.heap.size<=b/\(grp b p e none 0 .nil).At w'/\Ext w w'):=by
 go_enter Tryz.func139,Tryz.ntmps139;have B:=Blk.new w 250 #[.int .i64 p,.int .i64 e,.slice none 0 0];have E:=Ext.alloc w (.cells #[.int .i64 p,.int .i64 e,.slice none 0 0] 250)
 go_upto_region 1 with fail
 go_wp2_with fail
 go_ret
 exact⟨w.heap.size,rfl,Nat.le_refl _,⟨B,OwnS.nil _ _ _ _,.inl ⟨hp,rfl⟩,om,he,ip,ie,trivial,trivial⟩,E⟩
def RetR (I:List (Int×Int)->World->Prop)(R:List (Int×Int))(e:Ending)(w':World):Prop:=e=.returned (.tuple #[])/\I R w'
def VisR (z1 z2:Nat)(I:List (Int×Int)->World->Prop):Prop:=
 ∀(R:List (Int×Int)) (p e:Int) (w:World),I R w->R.length<1000000->0<=p->-1<=e->I64 p->I64 e->Calls Tryz.prog 148 #[.int .i64 p,.int .i64 e,.pointer (some ⟨z1,0,none⟩),.pointer (some ⟨z2,0,none⟩)] w (RetR I (R++[(p,e)]))
theorem U2z1 {P:Prop} (h:P:=by
 subst hlt;go_enter Tryz.func146,Tryz.ntmps146
 go_upto_region 5 with fail
 go_loopw [31] (fun v wr=>∃(g0 g:Fo),k=g0.app g/\v=.int .i64 g0.len/\I (pre++g0.pos lt) wr) (fun v _=>k.len-(intOf v).toNat)
 case atStart=>exact⟨.nil,k,rfl,rfl,by simpa[Fo.pos] using HH.out⟩
 case round=>
  obtain⟨g0,g,hk,rfl,hI⟩:=hrel;have hgl:=lh (show k.len=g0.len+g.len by rw[hk,Fo.len_app])
  cases g with
  | nil=>
   have hkI:¬(g0.len:Int)<k.len:=by have h9:=hgl.out;simp only[Fo.len] at h9;omega
   have hkk:k=g0:=by rw[hk,Fo.app_nil]
   rw[<-hkk] at hI;clear hk hkk
   go_wp2_with fail
   exact bodyPost_end (v:=.tuple #[]) (by simp[results,Tryz.results146,go_sem]) rfl ⟨rfl,hI⟩
  | cons b2 p2 e2 A2 c2 k2 r2=>
   have hkI:(g0.len:Int)<k.len:=by have h9:=hgl.out;simp only[Fo.len] at h9;omega
   obtain⟨_,ho2,_⟩:=HAA.out _ _ hI;have hne:k.ptrs≠[]:=by rw[hk,Fo.ptrs_app];simp[Fo.ptrs]
   obtain⟨ab,ao,hA,hc⟩:=OwnS.cells ho2 hne;have hpl:g0.len<k.ptrs.length:=by rw[Fo.ptrs_len];omega
   have HKI:=lh hkI;have hpe:k.ptrs[g0.len]'hpl=.pointer (some ⟨b2,0,none⟩):=by
    have e1:k.ptrs=g0.ptrs++(.pointer (some ⟨b2,0,none⟩)::r2.ptrs):=by rw[hk,Fo.ptrs_app];rfl
    simp only[e1];rw[List.getElem_append_right (by rw[Fo.ptrs_len];omega)];simp[Fo.ptrs_len]
   have hc2:=hc g0.len hpl;rw[hpe] at hc2;clear hc ho2 hne;have HC:=HKK.out g0 b2 p2 e2 A2 c2 k2 r2 hk lt (pre++g0.pos lt) wr hI hlt1.1 hlt1.2 (by
    have h9:=HLM.out;rw[hk,Fo.pos_app] at h9;have h8:(Fo.cons b2 p2 e2 A2 c2 k2 r2).pos lt=(grp b2 p2 e2 A2 c2 k2).pos lt++r2.pos lt:=by rw[grp_pos];rfl
    rw[h8] at h9;simp only[List.length_append] at h9 ⊢;omega)
   have hk2:k=(g0.app (grp b2 p2 e2 A2 c2 k2)).app r2:=by rw[Fo.app_assoc,hk];rfl
   have hps:pre++g0.pos lt++(grp b2 p2 e2 A2 c2 k2).pos lt=pre++(g0.app (grp b2 p2 e2 A2 c2 k2)).pos lt:=by rw[Fo.pos_app,List.append_assoc]
   rw[hps] at HC;have hl2:(g0.app (grp b2 p2 e2 A2 c2 k2)).len=g0.len+1:=by rw[Fo.len_app];rfl
   have HL2:=lh hl2;have HK2:=lh hk2;have HK0:=lh hk;have hA':=hA;subst hA';clear hk hk2 hl2 hps hpe hpl
   go_wp2_with fail
   refine HC.out.mono ?_;rintro en w1 ⟨rfl,h1⟩
   go_wp2_with fail
   go_roundw
   case rel=>exact⟨g0.app (grp b2 p2 e2 A2 c2 k2),r2,HK2.out,by rw[HL2.out];go_num,h1⟩
   case measure=>have:=HKI.out;simp[intOf];omega):P:=h
theorem U2z4 {P:Prop} (h:P:=by
 subst hlt;go_enter Tryz.func146,Tryz.ntmps146
 go_wp2_with fail
 refine(hvis _ HH.out).out.mono ?_;rintro en w1 ⟨rfl,h1⟩
 go_wp2_with fail
 exact bodyPost_end (v:=.tuple #[]) (by simp[results,Tryz.results146,go_sem]) rfl ⟨rfl,h1⟩):P:=h
theorem U2z2 {P:Prop} (h:P:=by
 have hpl:pre.length<1000000:=by have h9:=HLN.out;rw[if_pos hp] at h9;exact h9
 have hvis:=fun(w':World) (hI:I pre w')=>lh (HV.out pre p lt w' hI hpl hp hlt1.1 ip hlt1.2);clear hpl;rw[if_pos hp];by_cases hla:later<0
 ·rw[if_pos hla] at hlt;exact U2z4
 ·rw[if_neg hla] at hlt;exact U2z4):P:=h
theorem U2z3 {P:Prop} (h:P:=by
 have HLM:=lh (show(pre++k.pos lt).length<=1000000 by have h9:=HLN.out;rw[if_neg hp] at h9;exact h9);rw[if_neg hp];have HFIN:∀(s:World->Prop),(∀w',I (pre++k.pos lt) w'->s w')->∀w',I (pre++k.pos lt) w'->s w':=fun s h=>h;by_cases hla:later<0
 ·rw[if_pos hla] at hlt;exact U2z1
 ·rw[if_neg hla] at hlt;exact U2z1):P:=h
theorem nodeR (z1 z2:Nat)(I:List (Int×Int)->World->Prop)(hX:∀R w w',I R w->Ext w w'->I R w')(hV:VisR z1 z2 I)
 (b:Nat) (p e:Int) (A:Option Addr) (c:Nat) (k:Fo) (HA:∀R w,I R w->(grp b p e A c k).At w)
 (HK:∀(g0:Fo) (b2:Nat) (p2 e2:Int) (A2:Option Addr) (c2:Nat) (k2 r2:Fo),k=g0.app (.cons b2 p2 e2 A2 c2 k2 r2)->∀(later:Int) (pre:List (Int×Int)) (w:World),I pre w->-1<=later->I64 later->(pre++(grp b2 p2 e2 A2 c2 k2).pos later).length<=1000000->
  Hid (Calls Tryz.prog 146 #[.pointer (some ⟨b2,0,none⟩),.int .i64 later,.func (.func 148) #[] #[.pointer (some ⟨z1,0,none⟩),.pointer (some ⟨z2,0,none⟩)]] w (RetR I (pre++(grp b2 p2 e2 A2 c2 k2).pos later))))
 (later:Int) (pre:List (Int×Int)) (w:World) (h:I pre w) (hl : -1<=later) (il:I64 later) (hL:(pre++(grp b p e A c k).pos later).length<=1000000) :
 Calls Tryz.prog 146 #[.pointer (some ⟨b,0,none⟩),.int .i64 later,.func (.func 148) #[] #[.pointer (some ⟨z1,0,none⟩),.pointer (some ⟨z2,0,none⟩)]] w (RetR I (pre++(grp b p e A c k).pos later)):=by
 obtain⟨hb,ho,hpk,hp1,he1,ip,ie,hk,_⟩:=HA _ _ h;have k0:∀w',Ext w w'->w'.cell? ⟨b,0,none⟩=some (.int .i64 p):=fun w' x=>(hb.ext x).cell 0;have k1:∀w',Ext w w'->w'.cell? ⟨b,1,none⟩=some (.int .i64 e):=fun w' x=>(hb.ext x).cell 1;have k2:∀w',Ext w w'->w'.cell? ⟨b,2,none⟩=some (.slice A k.len c):=fun w' x=>(hb.ext x).cell 2;have d0:=k0 w (Ext.rfl' _);have d1:=k1 w (Ext.rfl' _);have d2:=k2 w (Ext.rfl' _);have hcap:=OwnS.form ho;have hkc:k.len<=9223372036854775807:=by
  rcases OwnS.form ho with⟨_,h2,_⟩|⟨_,_,_,_,_,h2,h3,_⟩
  ·omega
  ·unfold maxLen at h3;omega
 clear k0 k1 k2;obtain⟨lt,hlt⟩:∃lt:Int,lt=if later<0 then e else later:=⟨_,rfl⟩
 have hlt1 : -1<=lt/\I64 lt:=by subst hlt;split;exact⟨he1,ie⟩;exact⟨hl,il⟩
 have HP:Hid ((grp b p e A c k).pos later=if 0<=p then[(p,lt)] else k.pos lt):=lh (by rw[grp_pos,hlt]);have HLN:Hid (if 0<=p then pre.length<1000000 else(pre++k.pos lt).length<=1000000):=lh (by
  rw[HP.out] at hL
  split
  ·next h0=>rw[if_pos h0] at hL;simp only[List.length_append,List.length_cons,List.length_nil] at hL;omega
  ·next h0=>rw[if_neg h0] at hL;exact hL)
 have HV:=lh hV;have HH:=lh h;have HKK:=lh HK;have HAA:=lh HA;have HHX:=lh hX;clear hb ho hk h hcap HK HA hX hV hL;rw[HP.out];by_cases hp:0<=p
 ·exact U2z2
 ·exact U2z3
theorem eachR (z1 z2:Nat)(I:List (Int×Int)->World->Prop)(hX:∀R w w',I R w->Ext w w'->I R w')(hV:VisR z1 z2 I) :
 ∀(f:Fo),(∀R w,I R w->f.At w)->∀(g0:Fo) (b2:Nat) (p2 e2:Int) (A2:Option Addr) (c2:Nat) (k2 r2:Fo),f=g0.app (.cons b2 p2 e2 A2 c2 k2 r2)->∀(later:Int) (pre:List (Int×Int)) (w:World),I pre w->-1<=later->I64 later->(pre++(grp b2 p2 e2 A2 c2 k2).pos later).length<=1000000->
  Hid (Calls Tryz.prog 146 #[.pointer (some ⟨b2,0,none⟩),.int .i64 later,.func (.func 148) #[] #[.pointer (some ⟨z1,0,none⟩),.pointer (some ⟨z2,0,none⟩)]] w (RetR I (pre++(grp b2 p2 e2 A2 c2 k2).pos later)))
 | .nil,_,g0,_,_,_,_,_,_,_,hf,_,_,_,_,_,_,_=>by
  cases g0<;>simp[Fo.app] at hf
 | .cons b p e A c k r,HA,g0,b2,p2,e2,A2,c2,k2,r2,hf,later,pre,w,h,hl,il,hL=>by
  have hK:=eachR z1 z2 I hX hV k (fun R w hI=>(HA R w hI).2.2.2.2.2.2.2.1);have hR:=eachR z1 z2 I hX hV r (fun R w hI=>(HA R w hI).2.2.2.2.2.2.2.2)
  cases g0 with
  | nil=>
   simp only[Fo.app,Fo.cons.injEq] at hf;obtain⟨rfl,rfl,rfl,rfl,rfl,rfl,rfl⟩:=hf;exact lh (nodeR z1 z2 I hX hV b p e A c k (fun R w hI=>by
    obtain⟨h1,h2,h3,h4,h5,h6,h7,h8,_⟩:=HA R w hI;exact⟨h1,h2,h3,h4,h5,h6,h7,h8,trivial⟩) hK later pre w h hl il hL)
  | cons b0 p0 e0 A0 c0 k0 r0=>
   simp only[Fo.app,Fo.cons.injEq] at hf;obtain⟨rfl,rfl,rfl,rfl,rfl,rfl,rfl⟩:=hf;exact hR r0 b2 p2 e2 A2 c2 k2 r2 rfl later pre w h hl il hL
end
end Go.Proofs.YtmgpefenkilffaaGreat
