/- Texts of this proof: C5 TX Y3 G9 K11 H3. -/
import Derived.Test.YtmocoldobnimfaaGreatMS13
import Derived.Test.YtmocoldobnimfaaGreatMS14
import Derived.LaidEqlPtr
set_option linter.all false
set_option maxRecDepth 100000
set_option maxHeartbeats 16000000
namespace Go.Proofs.YtmocoldobnimfaaGreat
section
open Go.RowKit
attribute [local go_sem ↓] Go.wp_at_zero Go.wp_at_succ
def U0 (w:World)(e:Ending)(w':World):Prop:=∃x:Int,e=.returned (.int .i64 x)/\I64 x/\Ext w w'
theorem yJ (n:Int):I64 (IntKind.i64.wrap n):=by rw[IntKind.wrap_i64];unfold I64;omega
theorem jM (n:Int):I64 (wrap64 n):=by unfold wrap64 I64;omega
theorem eF {P:Prop} (h:P:=by
 go_wp2_with fail
 all_goals
  go_ret
  exact HF.out _ (by first|exact hx1|exact jM _|exact yJ _|(simp[I64];done)) _ (Ext.rfl' _)):P:=h
theorem DX (bd:Nat)(S:Nat->Prop):∀(d:Nat) (w:World) (v:Value),Qx bd S w d v->Calls Tryz.prog 64 #[v] w (U0 w):=by
 intro d;induction d with
 | zero=>intro w v h;obtain⟨e,he⟩:=h.pos;omega
 | succ d ih=>
  intro w v h;obtain⟨n,rfl,hok,hsl,hkl,hkc,hcl,hks⟩:=h.node;obtain⟨op,A,c,l,K,kc,ks,mn,mx,md,nn,neg⟩:=n;have hop:=hok.op;have hfew:=hok.few;have hmn:=hok.mn;have hmx:=hok.mx
  simp only at hop hsl hkl hkc hcl hks hfew hmn hmx
  unfold Nd.val
  simp only
  have HIH:=lh ih;clear ih h hok;have B0:=Blk.new w 26 #[.int .i64 op,.slice A l.length c,.slice K ks.length kc,.int .i64 mn,.int .i64 mx,.int .i64 md,.int .i64 nn,.bool neg];have E0:=Ext.alloc w (.cells #[.int .i64 op,.slice A l.length c,.slice K ks.length kc,.int .i64 mn,.int .i64 mx,.int .i64 md,.int .i64 nn,.bool neg] 26);have HC:=lh (hcl.ext E0);have HK:=lh (fun u hu=>(hks u hu).ext E0);have HKL:ks.length<=kc/\kc<=9223372036854775807:=⟨hkl,by unfold maxLen at hkc;omega⟩;clear hcl hks hsl hkl hkc;go_enter Tryz.func64,Tryz.ntmps64
  go_upto_region 1 with fail
  obtain⟨gx,hgx⟩:∃gx,gx=w.heap.size:=⟨_,rfl⟩
  rw[<-hgx] at B0 ⊢;clear hgx;generalize w.alloc (.cells #[.int .i64 op,.slice A l.length c,.slice K ks.length kc,.int .i64 mn,.int .i64 mx,.int .i64 md,.int .i64 nn,.bool neg] 26)=wa at *;have z0:wa.cell? ⟨gx,0,none⟩=some (.int .i64 op):=B0.cell 0;have z2:wa.cell? ⟨gx,2,none⟩=some (.slice K ks.length kc):=B0.cell 2;have z3:wa.cell? ⟨gx,3,none⟩=some (.int .i64 mn):=B0.cell 3;have z4:wa.cell? ⟨gx,4,none⟩=some (.int .i64 mx):=B0.cell 4
  go_upto_region 3 with fail
  go_loopw [4,3] (fun v u wr=>∃(i:Nat) (x:Int),v=.int .i64 i/\u=.int .i64 x/\i<=ks.length/\I64 x/\Ext wa wr) (fun v _ _=>ks.length-(intOf v).toNat)
  case atStart=>exact⟨0,0,rfl,rfl,om,by simp[I64],Ext.rfl' _⟩
  case round=>
   obtain⟨i,x,rfl,rfl,hi,hx1,x1⟩:=hrel;have z0r:=x1.cell z0;have z2r:=x1.cell z2;have z3r:=x1.cell z3;have z4r:=x1.cell z4;by_cases hlt:i<ks.length
   ·have hiI:(i:Int)<ks.length:=om;obtain⟨b,o,hK,n,ht,k0,k1,k2,k3,k4,k5,k6,k7⟩:=YU (HC.out.ext x1) (fun u hu=>(HK.out u hu).ext x1) hlt;have hK':=hK;subst hK';have HT:=lh ht;clear ht
    go_wp2_with (go_at_call 64;refine(HIH.out wr _ HT.out).mono ?_;rintro e w3 ⟨y,rfl,hy1,x3⟩;have HW:=yJ (x+y);generalize hwz:IntKind.i64.wrap (x+y)=z at HW;have HZ:=lh hwz.symm;have hwz2:=hwz;clear HZ)
    go_roundw
    case rel=>exact⟨i+1,_,by go_num,rfl,om,HW,x1.trans x3⟩
    case measure=>simp[intOf];omega
   ·have hiI:¬(i:Int)<ks.length:=om;have FIN:∀z:Int,I64 z->∀w',Ext wr w'->U0 w (.returned (.int .i64 z)) w':=fun z h1 w' h2=>⟨_,rfl,h1,E0.trans (x1.trans h2)⟩;have HF:=lh FIN;clear FIN;rcases hop with rfl|rfl|rfl|rfl|rfl|rfl|rfl
    case inr.inr.inr.inr.inl=>
     by_cases hm1:mx = -1
     ·subst hm1;exact eF
     ·have hm2:(mx == -1)=false:=by simp[hm1]
      exact eF
    all_goals
     go_wp2_with fail
     all_goals
      go_ret
      exact HF.out _ (by first|exact hx1|exact jM _|exact yJ _|(simp[I64];done)) _ (Ext.rfl' _)
end

section
open Go.RowKit
attribute [local go_sem ↓] Go.wp_at_zero Go.wp_at_succ
theorem eH:Tryz.prog.underlying 43=some (.pointer 136):=by kernel_rfl
theorem i6:(Tryz.prog.info? 136).map (·.size)=some 6:=by kernel_rfl
theorem jN (w:World)(gm g:Nat)(s:Sm)(hs:Kw w g s)(T1 T2:Nat)(C1 C2:Array Value)(hm:Blk w gm T1 C1)(hm2:Blk w s.m T2 C2) :
 Calls Tryz.prog 81 #[.pointer (some ⟨gm,0,none⟩),.pointer (some ⟨g,0,none⟩)] w (QD (.bool (decide (s.m=gm))) w):=by
 have c0:w.cell? ⟨g,0,none⟩=some (.pointer (some ⟨s.m,0,none⟩)):=hs.blk.cell 0;obtain⟨j,hj,hjs⟩:=Option.map_eq_some_iff.1 i6;by_cases h:s.m=gm
 ·subst h;rw[decide_eq_true rfl];go_enter Tryz.func81,Tryz.ntmps81
  go_wp2_with fail
  rw[run_eql_ptr_same w _ eH hj]
  go_wp2_with fail
  go_ret
  exact⟨rfl,Ext.rfl' _⟩
 ·rw[decide_eq_false h];go_enter Tryz.func81,Tryz.ntmps81
  go_wp2_with fail
  rw[run_eql_ptr_other (a:=⟨s.m,0,none⟩) (b:=⟨gm,0,none⟩) w eH hj (by rw[hjs];decide) (fun e=>h (by injection e)) hm2 hm]
  go_wp2_with fail
  go_ret
  exact⟨rfl,Ext.rfl' _⟩
end
section
open Go.RowKit
theorem OS:(Tryz.prog.info? 4).map (fun i=>(i.zero,i.size,i.bytes))=some (some (.bool false),1,1):=by kernel_rfl
theorem DY (l:List Bool):∀u∈l.map Value.bool,u.oneCell'=true:=by
 intro u hu;obtain⟨b,_,rfl⟩:=List.mem_map.1 hu
 rfl
end
section
open Go.RowKit
attribute [local go_sem ↓] Go.wp_at_zero Go.wp_at_succ
theorem vx {runes:Bool}{caps:Int}{G:List Ins}(h:WG runes caps G≠0):Vq runes caps G=WG runes caps G:=by unfold Vq;rw[if_pos h]
theorem Dq {runes:Bool}{caps:Int}{hs:List Hin}(h:WG runes caps (QW hs)=0){k:Nat}(hk:k<hs.length)(h5:hs[k].op=5):Vq runes caps (QW hs)=10:=by
 unfold Vq;rw[if_neg (fun h2=>h2 h),if_pos ⟨hs[k].ins,List.mem_map_of_mem (List.getElem_mem hk),h5⟩]
theorem LF {runes:Bool}{caps:Int}{hs:List Hin}(h:WG runes caps (QW hs)=0)(h5:∀k (hk:k<hs.length),hs[k].op≠5):Vq runes caps (QW hs)=0:=by
 unfold Vq;rw[if_neg (fun h2=>h2 h),if_neg];rintro⟨i,hi,h⟩;obtain⟨z,hz,rfl⟩:=List.mem_map.1 hi;obtain⟨k,hk,rfl⟩:=List.mem_iff_getElem.1 hz;exact h5 k hk h
theorem I0 (gA:Option Addr)(gc:Nat)(hs:List Hin)(runes:Bool)(caps:Int)(w:World)(hP:PL w gA gc hs) :
 Calls Tryz.prog 74 #[QN gA hs.length gc caps runes] w (QD (.int .i64 (Vq runes caps (QW hs))) w):=by
 have hcap:=hP.len;have bG:=Blk.new w 33 #[.slice gA hs.length gc,.int .i64 caps,.bool runes];have eG:=Ext.alloc w (.cells #[.slice gA hs.length gc,.int .i64 caps,.bool runes] 33);have HV:=fun(w':World) (h:PL w' gA gc hs)=>lh (ME gA gc hs runes caps w' h);unfold QN at HV ⊢;have HV2:=HV _ (hP.ext eG);clear HV;by_cases hp:WG runes caps (QW hs)=0
 ·have HK:=fun(k:Nat) (hk:k<hs.length) h=>lh (Dq (runes:=runes) (caps:=caps) (hs:=hs) hp hk h);have HO:=fun h=>lh (LF (runes:=runes) (caps:=caps) (hs:=hs) hp h);rw[hp] at HV2;generalize Vq runes caps (QW hs)=E at *;clear hp;go_enter Tryz.func74,Tryz.ntmps74
  go_wp2_with fail
  refine HV2.out.mono ?_;rintro e w1 ⟨rfl,x1⟩;clear HV2
  go_upto_region 5 with fail
  have hP1:=(hP.ext eG).ext x1;have bG1:=bG.ext x1
  go_loopw [4] (fun v wr=>∃k:Nat,v=.int .i64 k/\k<=hs.length/\Hid (∀j (hj:j<hs.length),j<k->hs[j].op≠5)/\Ext w1 wr) (fun v _=>hs.length-(intOf v).toNat)
  case atStart=>exact⟨0,rfl,om,lh (fun j _ h=>om),Ext.rfl' _⟩
  case round=>
   obtain⟨k,rfl,hk,hno,y1⟩:=hrel;have bG2:=bG1.ext y1;obtain⟨r0,r1,r2,r0f,r1f,r2f,rz⟩:=bG2.c3;by_cases hlt:k<hs.length
   ·have hkI:(k:Int)<hs.length:=om;obtain⟨pb,po,rfl,c0,c1,c2,c3,c4⟩:=(hP1.ext y1).get hlt;have HKK:=HK k hlt;have HNO:=fun(h:hs[k].op≠5)=>lh (show ∀j (hj:j<hs.length),j<k+1->hs[j].op≠5 from fun j hj hjk=>by
     rcases Nat.lt_or_ge j k with h1|h1
     ·exact hno.out j hj h1
     ·have:j=k:=om;subst this;exact h)
    generalize hs[k]=hh at *;obtain⟨zop,zx,zy,zn,zA,zc,zl⟩:=hh
    simp only at c0 HKK HNO
    clear c1 c2 c3 c4 HK HO;by_cases h5:zop=5
    ·have h5b:(zop == 5)=true:=by simp[h5]
     have HKE:=HKK h5;clear h5 HKK HNO
     go_wp2_with fail
     go_ret
     exact⟨by rw[HKE.out];rfl,(eG.trans x1).trans y1⟩
    ·have h5b:(zop == 5)=false:=by simp[h5]
     have HNE:=HNO h5;clear h5 HKK HNO
     go_wp2_with fail
     go_roundw
     case rel=>exact⟨k+1,by go_num,om,HNE,y1⟩
     case measure=>simp[intOf];omega
   ·have hkI:¬(k:Int)<hs.length:=om;have HE:=HO (fun j hj=>hno.out j hj om);clear HK HO
    go_wp2_with fail
    go_ret
    exact⟨by rw[HE.out];rfl,(eG.trans x1).trans y1⟩
 ·rw[vx hp];have hp2:(WG runes caps (QW hs) != 0)=true:=by simp[hp]
  generalize WG runes caps (QW hs)=E at *;clear hp;go_enter Tryz.func74,Tryz.ntmps74
  go_wp2_with fail
  refine HV2.out.mono ?_;rintro e w1 ⟨rfl,x1⟩
  go_wp2_with fail
  go_ret
  exact⟨rfl,eG.trans x1⟩
end
section
open Go.RowKit
def jJ (ls:List Hs)(x y:Int):Bool:=decide (∀j (h:j<ls.length),has ls[j].l x=has ls[j].l y)
theorem OT {ls:List Hs}{x y:Int}{i:Nat}(hi:i<ls.length)(h:has ls[i].l x≠has ls[i].l y):jJ ls x y=false:=decide_eq_false (fun hk=>h (hk i hi))
theorem MF {ls:List Hs}{x y:Int}(h:∀j (h:j<ls.length),has ls[j].l x=has ls[j].l y):jJ ls x y=true:=decide_eq_true h
theorem MG (A:Option Addr)(c:Nat)(ls:List Hs)(x y:Int)(w:World)(hl:LLS w A c ls):Calls Tryz.prog 126 #[.slice A ls.length c,.int .i64 x,.int .i64 y] w (QD (.bool (jJ ls x y)) w):=by
 have hcap:=hl.len;have HN:=fun i hi h=>lh (OT (ls:=ls) (x:=x) (y:=y) (i:=i) hi h);have HY:=fun h=>lh (MF (ls:=ls) (x:=x) (y:=y) h);generalize jJ ls x y=r at *;go_enter Tryz.func126,Tryz.ntmps126
 go_wp2
 go_loopw [7] (fun v wr=>∃i:Nat,v=.int .i64 i/\i<=ls.length/\Hid (∀j (h:j<ls.length),j<i->has ls[j].l x=has ls[j].l y)/\Ext w wr) (fun v _=>ls.length-(intOf v).toNat)
 case atStart=>exact⟨0,rfl,om,fun j _ hj=>absurd hj (Nat.not_lt_zero _),Ext.rfl' _⟩
 case round=>
  obtain⟨i,rfl,hi,HI,x1⟩:=hrel;by_cases hlt:i<ls.length
  ·have hiI:(i:Int)<ls.length:=om;obtain⟨pb,po,rfl,g0⟩:=(hl.ext x1).get hlt;have hsl:=(hl.sl _ (List.getElem_mem hlt)).ext x1;have HV:=fun(z:Int) (W':World) (x:Ext wr W')=>lh (FG _ _ _ z W' (hsl.ext x));have HI2:=lh (show has ls[i].l x=has ls[i].l y->∀j (hj:j<ls.length),j<i+1->has ls[j].l x=has ls[j].l y from fun h j hj hji=>by
    rcases Nat.lt_or_ge j i with h1|h1
    ·exact HI.out j hj h1
    ·have:j=i:=om;subst this;exact h)
   have HB:=HN i hlt;generalize ls[i]=hh at *;obtain⟨hA,hc,hl2⟩:=hh
   simp only at g0 HV HI2 HB
   have HVx:=fun W' h=>HV x W' h;have HVy:=fun W' h=>HV y W' h;clear HV;generalize has hl2 x=bx at *;generalize has hl2 y=by_ at *;by_cases he:bx=by_
   ·have HI3:=lh (HI2.out he);have hb:(!bx == by_)=false:=by simp[he]
    clear HI2 HB HN HY HI he
    go_wp2_with fail
    refine(HVx _ (Ext.rfl' _)).out.mono ?_;rintro e w2 ⟨rfl,x2⟩;replace g0:=x2.cell g0
    go_wp2_with fail
    refine(HVy _ x2).out.mono ?_;rintro e w3 ⟨rfl,x3⟩;have x4:=(x1.trans x2).trans x3;clear HVx HVy g0 hsl x2 x3
    go_wp2_with fail
    go_roundw
    case rel=>exact⟨i+1,by go_num,om,HI3,x4⟩
    case measure=>simp[intOf];omega
   ·have HR:=HB he;have hb:(!bx == by_)=true:=by simp[he]
    clear HI2 HB HN HY HI he
    go_wp2_with fail
    refine(HVx _ (Ext.rfl' _)).out.mono ?_;rintro e w2 ⟨rfl,x2⟩;replace g0:=x2.cell g0
    go_wp2_with fail
    refine(HVy _ x2).out.mono ?_;rintro e w3 ⟨rfl,x3⟩;have x4:=(x1.trans x2).trans x3;clear HVx HVy g0 hsl x2 x3
    go_wp2_with fail
    go_ret
    exact⟨by rw[HR.out];rfl,x4⟩
  ·have hiI:¬(i:Int)<ls.length:=om;have HR:=HY (fun j hj=>HI.out j hj om);clear HI HY HN
   go_wp2
   go_ret
   exact⟨by rw[HR.out];rfl,x1⟩
end
