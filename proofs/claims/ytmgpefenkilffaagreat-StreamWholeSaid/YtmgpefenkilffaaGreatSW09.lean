/- Texts of this proof: Y1 Y2 Y3 G9 C2 C5 C1g C1 Z2 Z3 TX. -/
import Derived.Test.YtmgpefenkilffaaGreatSW07
import Derived.LaidEqlPtr
set_option linter.all false
set_option maxRecDepth 100000
set_option maxHeartbeats 16000000
namespace Go.Proofs.YtmgpefenkilffaaGreat
section
open Go.RowKit
theorem infoBl:(Tryz.prog.info? 4).map (fun i=>(i.zero,i.size,i.bytes))=some (some (.bool false),1,1):=by kernel_rfl
end
section
open Go.RowKit
attribute [local go_sem ↓] Go.wp_at_zero Go.wp_at_succ
theorem infoIn:(Tryz.prog.info? 128).map (fun i=>(i.zero,i.size,i.bytes))=some (some (.agg #[.int .i64 0,.int .i64 0,.int .i64 0,.int .i64 0,.slice none 0 0]),5,56):=by kernel_rfl
theorem kid8x {bd:Nat}{S:Nat->Prop}{w w0:World}{d:Nat}{K:Option Addr}{ks:List Value}(x:Ext w0 w)(hc:CellsAt w0 K (ks.flatMap cellsOf))(ht:∀u∈ks,TreeAt bd S w0 d u){i:Nat}(hi:i<ks.length) :
 ∃b o,K=some ⟨b,o,none⟩/\∃n:Nd,TreeAt bd S w0 d n.val/\w.cell? ⟨b,o+i*8,none⟩=some (.int .i64 n.op)/\w.cell? ⟨b,o+i*8+1,none⟩=some (.slice n.A n.l.length n.c)/\w.cell? ⟨b,o+i*8+2,none⟩=some (.slice n.K n.ks.length n.kc)/\
  w.cell? ⟨b,o+i*8+3,none⟩=some (.int .i64 n.mn)/\w.cell? ⟨b,o+i*8+4,none⟩=some (.int .i64 n.mx)/\w.cell? ⟨b,o+i*8+5,none⟩=some (.int .i64 n.md)/\w.cell? ⟨b,o+i*8+6,none⟩=some (.int .i64 n.n)/\w.cell? ⟨b,o+i*8+7,none⟩=some (.bool n.neg):=by
 obtain⟨b,o,hK,n,h,k0,k1,k2,k3,k4,k5,k6,k7⟩:=kid8 hc ht hi;exact⟨b,o,hK,n,h,x.cell k0,x.cell k1,x.cell k2,x.cell k3,x.cell k4,x.cell k5,x.cell k6,x.cell k7⟩
def compF (h:Hd)(l:List (List Int->Bool))(xs:List Int):Bool:=if h.op=5 then(if h.n∈xs then false else l.all (fun c=>c (xs++[h.n]))) else l.all (fun c=>c xs)
def comp:Tm->List Int->Bool:=Tm.fold compF
theorem comp_eq (T:Tm):comp T=compF T.hd (T.kids.map comp):=Tm.fold_eq _ _
theorem comp_n {T:Tm}{xs:List Int}(h:T.hd.op≠5):comp T xs=T.kids.all (fun t=>comp t xs):=by rw[comp_eq];simp[compF,h,List.all_map,Function.comp_def]
theorem comp_5 {T:Tm}{xs:List Int}(h:T.hd.op=5)(hn:T.hd.n∉xs):comp T xs=T.kids.all (fun t=>comp t (xs++[T.hd.n])):=by rw[comp_eq];simp[compF,h,hn,List.all_map,Function.comp_def]
theorem comp_5x {T:Tm}{xs:List Int}(h:T.hd.op=5)(hn:T.hd.n∈xs):comp T xs=false:=by rw[comp_eq];simp[compF,h,hn]
theorem comp_nf {T:Tm}{xs:List Int}(h:T.hd.op≠5){i:Nat}(hi:i<T.kids.length)(hf:comp T.kids[i] xs=false):comp T xs=false:=by
 rw[comp_n h,List.all_eq_false];exact⟨_,List.getElem_mem hi,by simp[hf]⟩
theorem comp_nt {T:Tm}{xs:List Int}(h:T.hd.op≠5)(ht:∀i (hi:i<T.kids.length),comp T.kids[i] xs=true):comp T xs=true:=by
 rw[comp_n h,List.all_eq_true];intro x hx;obtain⟨i,hi,rfl⟩:=List.getElem_of_mem hx;exact ht i hi
theorem comp_5f {T:Tm}{xs ys:List Int}(h:T.hd.op=5)(hn:T.hd.n∉xs)(hy:ys=xs++[T.hd.n]){i:Nat}(hi:i<T.kids.length)(hf:comp T.kids[i] ys=false):comp T xs=false:=by
 subst hy;rw[comp_5 h hn,List.all_eq_false];exact⟨_,List.getElem_mem hi,by simp[hf]⟩
theorem comp_5t {T:Tm}{xs ys:List Int}(h:T.hd.op=5)(hn:T.hd.n∉xs)(hy:ys=xs++[T.hd.n])(ht:∀i (hi:i<T.kids.length),comp T.kids[i] ys=true):comp T xs=true:=by
 subst hy;rw[comp_5 h hn,List.all_eq_true];intro x hx;obtain⟨i,hi,rfl⟩:=List.getElem_of_mem hx;exact ht i hi
theorem comp_bare {u C:Int}(hu:Go.bits BinOp.and IntKind.i64 u 64=0){T:Tm}(h:GdT u C T):∀xs,comp T xs=true:=by
 induction h with
 | mk T h _ ih=>
  intro xs;have h5:T.hd.op≠5:=by
   intro e;rcases h.num with h|h|h|h|h|h<;>(have:=h.1;omega)
  exact comp_nt h5 (fun i hi=>ih _ (List.getElem_mem hi) xs)
theorem C1gz2 {P:Prop} (h:P:=by
 go_roundw
 case rel=>exact⟨i+1,by go_num,om,lh (fun j hj h=>by
  by_cases hji:j<i
  ·exact HJ.out j hj hji
  ·obtain rfl:j=i:=om;exact HB3.out),x1.trans x3⟩
 case measure=>simp[intOf];omega):P:=h
theorem C1gz1 {P:Prop} (h:P:=by
 go_upto_region 12 with fail
 go_loopw [7] (fun v wr=>∃i:Nat,v=.int .i64 i/\i<=ks.length/\Hid (∀j (hj:j<T.kids.length),j<i->comp T.kids[j] xs=true)/\Ext wa wr) (fun v _=>ks.length-(intOf v).toNat)
 case atStart=>exact⟨0,rfl,om,lh (fun j _ h=>om),Ext.rfl' _⟩
 case round=>
  obtain⟨i,rfl,hi,HJ,x1⟩:=hrel;have z2r:=x1.cell z2;by_cases hlt:i<ks.length
  ·have hiI:(i:Int)<ks.length:=om;obtain⟨b,o,hK,n,ht,k0,k1,k2,k3,k4,k5,k6,k7⟩:=kid8G (HC.out.ext (XR.trans x1)) HTL.out (fun i hi hj=>(HK.out i hi hj).ext (XR.trans x1)) hlt;have hK':=hK;subst hK';have HT:=lh ht;clear ht
   go_wp2_with (go_at_call 77;refine(HIH.out wr _ _ HT.out (HG.out _ (List.getElem_mem _)) R rc xs (HI.out.ext x1) om).mono ?_;rintro e w3 ⟨rfl,x3⟩;obtain⟨b3,hb3⟩:∃b,b=comp (T.kids[i]'(HTL.out▸hlt)) xs:=⟨_,rfl⟩;rw[<-hb3];have HB3:=lh hb3.symm;clear hb3;cases b3)
   ·go_ret
    exact⟨by rw[comp_nf (by rw[HHD.out];simp;try omega) _ HB3.out];rfl,E0.trans (x1.trans x3)⟩
   ·exact C1gz2
  ·have hiI:¬(i:Int)<ks.length:=om
   go_wp2_with fail
   go_ret
   exact⟨by rw[comp_nt (by rw[HHD.out];simp;try omega) (fun j hj=>HJ.out j hj (by have:=HTL.out;omega))];rfl,E0.trans x1⟩):P:=h
theorem xcompiles_G (u C:Int)(S:Nat->Prop):∀(d:Nat) (w:World) (v:Value) (T:Tm),TreeG 3 S w d v T->GdT u C T->∀(R:Option Addr) (rc:Nat) (xs:List Int),IL w R rc xs->xs.length+d<=1000->Calls Tryz.prog 77 #[v,.slice R xs.length rc] w (RetV (.bool (comp T xs)) w):=by
 intro d;induction d with
 | zero=>intro w v T h;obtain⟨e,he⟩:=h.pos;omega
 | succ d ih=>
  intro w v T h hg R rc xs hI hlen;obtain⟨n,rfl,hok,hsl,hkl,hkc,hcl,hhd,htl,hks⟩:=h.node;obtain⟨hho,hgk⟩:HdOk u C T.hd T.kids/\∀t∈T.kids,GdT u C t:=by cases hg with|mk _ h1 h2=>exact⟨h1,h2⟩
  have HHO:=lh hho;have HG:=lh hgk;clear hg hho hgk;obtain⟨op,A,c,l,K,kc,ks,mn,mx,md,nn,neg⟩:=n;have hop:=hok.op;simp only[Nd.hd] at hhd;have HHD:=lh hhd;have HTL:=lh htl;clear hhd htl;have hone:=hok.one;have hmd:=hok.md;have hn:=hok.n
  simp only at hop hone hmd hn hsl hkl hkc hcl hks
  unfold Nd.val
  simp only
  have HIH:=lh ih;clear ih h hok;have hrl:=hI.len;have B0:=Blk.new w 61 #[.int .i64 op,.slice A l.length c,.slice K ks.length kc,.int .i64 mn,.int .i64 mx,.int .i64 md,.int .i64 nn,.bool neg];have E0:=Ext.alloc w (.cells #[.int .i64 op,.slice A l.length c,.slice K ks.length kc,.int .i64 mn,.int .i64 mx,.int .i64 md,.int .i64 nn,.bool neg] 61);have HC:=lh (hcl.ext E0);have HK:=lh (fun i hi hj=>(hks i hi hj).ext E0);have HKL:ks.length<=kc/\kc<=9223372036854775807:=⟨hkl,by unfold maxLen at hkc;omega⟩;have HI:=lh (hI.ext E0);clear hcl hks hsl hkl hkc hI;go_enter Tryz.func77,Tryz.ntmps77
  go_upto_region 1 with fail
  obtain⟨gx,hgx⟩:∃gx,gx=w.heap.size:=⟨_,rfl⟩
  rw[<-hgx] at B0 ⊢;clear hgx;generalize w.alloc (.cells #[.int .i64 op,.slice A l.length c,.slice K ks.length kc,.int .i64 mn,.int .i64 mx,.int .i64 md,.int .i64 nn,.bool neg] 61)=wa at *;have z0:wa.cell? ⟨gx,0,none⟩=some (.int .i64 op):=B0.cell 0;have z2:wa.cell? ⟨gx,2,none⟩=some (.slice K ks.length kc):=B0.cell 2;have z5:wa.cell? ⟨gx,5,none⟩=some (.int .i64 md):=B0.cell 5;have z6:wa.cell? ⟨gx,6,none⟩=some (.int .i64 nn):=B0.cell 6;have XR:=Ext.rfl' wa;by_cases h4:op=4
  ·subst h4;have hlt0:0<ks.length:=by have:=hone (.inl rfl);omega
   have hlt0I:(0:Int)<ks.length:=om;have hm2:(md == 2)=false:=by simp;omega
   obtain⟨b,o,hK,n,ht,k0,k1,k2,k3,k4,k5,k6,k7⟩:=kid8G HC.out HTL.out HK.out hlt0;have hK':=hK;subst hK';simp only[Nat.zero_mul,Nat.add_zero] at k0 k1 k2 k3 k4 k5 k6 k7;have hn0:nul (T.kids[0]'(HTL.out▸hlt0))=false:=by
    rcases HHO.out.num with h|h|h|⟨_,_,_,_,_,t,h1,h2⟩|h|h
    ·have:=h.1;rw[HHD.out] at this;simp at this
    ·have:=h.1;rw[HHD.out] at this;simp at this
    ·have:=h.1;rw[HHD.out] at this;simp at this
    ·simp only[h1,List.getElem_cons_zero];exact h2
    ·have:=h.1;rw[HHD.out] at this;simp at this
    ·have:=h.1;rw[HHD.out] at this;simp at this
   have HN:=lh (ynullable_G 3 S d wa _ _ ht);rw[hn0] at HN;clear hn0;unfold Nd.val at HN;clear ht
   go_upto_region 12 with(go_at_call 153;refine HN.out.mono ?_;rintro e w3 ⟨rfl,x3⟩;have z03:=x3.cell z0;have z23:=x3.cell z2;have HX3:=lh x3;clear x3)
   have x3:=HX3.out
   go_loopw [7] (fun v wr=>∃i:Nat,v=.int .i64 i/\i<=ks.length/\Hid (∀j (hj:j<T.kids.length),j<i->comp T.kids[j] xs=true)/\Ext w3 wr) (fun v _=>ks.length-(intOf v).toNat)
   case atStart=>exact⟨0,rfl,om,lh (fun j _ h=>om),Ext.rfl' _⟩
   case round=>
    obtain⟨i,rfl,hi,HJ,x1⟩:=hrel;have z2r:=x1.cell z23;by_cases hlt:i<ks.length
    ·have hiI:(i:Int)<ks.length:=om;obtain⟨b,o,hK,n,ht,k0,k1,k2,k3,k4,k5,k6,k7⟩:=kid8G (HC.out.ext (x3.trans x1)) HTL.out (fun i hi hj=>(HK.out i hi hj).ext (x3.trans x1)) hlt;injection hK with hK;injection hK with e1 e2 _
     subst e1;subst e2;have HT:=lh ht;clear ht
     go_wp2_with (go_at_call 77;refine(HIH.out wr _ _ HT.out (HG.out _ (List.getElem_mem _)) R rc xs ((HI.out.ext x3).ext x1) om).mono ?_;rintro e w3 ⟨rfl,x3⟩;obtain⟨b3,hb3⟩:∃b,b=comp (T.kids[i]'(HTL.out▸hlt)) xs:=⟨_,rfl⟩;rw[<-hb3];have HB3:=lh hb3.symm;clear hb3;cases b3)
     ·go_ret
      exact⟨by rw[comp_nf (by rw[HHD.out];simp;try omega) _ HB3.out];rfl,(E0.trans HX3.out).trans (x1.trans x3)⟩
     ·exact C1gz2
    ·have hiI:¬(i:Int)<ks.length:=om
     go_wp2_with fail
     go_ret
     exact⟨by rw[comp_nt (by rw[HHD.out];simp;try omega) (fun j hj=>HJ.out j hj (by have:=HTL.out;omega))];rfl,(E0.trans HX3.out).trans x1⟩
  ·by_cases h5:op=5
   ·subst h5;have HH:=lh (has_any R rc xs nn wa HI.out);obtain⟨hb,hhb⟩:∃hb,hb=decide (nn∈xs):=⟨_,rfl⟩
    rw[<-hhb] at HH;have HHB:=lh hhb;clear hhb
    go_upto_region 5 with(go_at_call 154;refine HH.out.mono ?_;rintro e w3 ⟨rfl,nq3,rfl⟩)
    have x3:=Ext.drewN wa nq3;have HI3:=lh (HI.out.ext x3);have z03:=x3.cell z0;have z23:=x3.cell z2;have z63:=x3.cell z6;have HX3:=lh x3;have HZ3:=lh (⟨x3.cell z0,x3.cell z2⟩:(wa.drewN nq3).cell? ⟨gx,0,none⟩=_/\(wa.drewN nq3).cell? ⟨gx,2,none⟩=_);generalize wa.drewN nq3=wb at *;cases hb
    ·have HNI:Hid (nn∉xs):=lh (by have:=HHB.out;simpa using this.symm)
     go_upto_region 8 with fail
     obtain⟨i0,hi0,hz0,hz1,hz2⟩:=info_parts infoInt;have k6:=kc0 z63;have HON:Hid (∀w':World,OwnS w' wb.heap.size 3 1 none 0 0 []):=lh (fun w'=>OwnS.nil _ _ _ _);refine Xr.start [] kr ?_;refine Xtk 0 ?_;refine Xtn ?_;refine Xtk 3 ?_;refine Xtn ?_;refine Xr.lazy 5 36 6 (fun g=>.slice (some ⟨g,0,none⟩) 1 1) 3 #[.int .i64 nn] rfl si dK si (fun w'=>by go_simp) ?_;refine Xcl 2 fun w4 hE4 hK4 K hKK=>?_;have x4:Ext wb w4:=hK4.nil;refine wp_app _ _ _ _ rfl wb.heap.size 3 i0 (.int .i64 0) 1 8 Tryz.underlying22 hi0 hz0 hz1 hz2 rfl om none 0 0 [] rfl (HON.out w4) _ xs.length rc (xs.map (Value.int .i64)) rfl si (HI3.out.ext x4).cells (ints_one _) um om x4.size ?_;intro A5 c5 w5 ho5 hg5 hat5;have x5:=Ext.app x4 (HON.out w4) hg5;simp only[Nat.zero_add,List.nil_append] at ho5 ⊢;have x45:Ext w4 w5:=(Ext.rfl' w4).grown hg5 si;refine hKK _ _ x45 ?_;clear hKK;refine ptm ?_;refine Xr.stepZ rfl dK (fun _=>by rfl) (fun w6 g6 hE6 hK6 hg6 hB6 hno K hKK=>?_);have ho6:=OwnS.ext ho5 hE6;refine wp_app _ _ _ _ rfl wb.heap.size 3 i0 (.int .i64 0) 1 8 Tryz.underlying22 hi0 hz0 hz1 hz2 rfl om A5 xs.length c5 (xs.map (Value.int .i64)) rfl ho6 _ 1 1 [.int .i64 nn] rfl rfl (blk_cells hB6) (ints_one [nn]) um om (by have:=hK6.size;omega) ?_;intro A9 c9 w9 ho9 hg9 hat9;have xb9:Ext wb w9:=Ext.app hK6.nil ho6 hg9;refine hKK _ _ (WI_grown hg9 (fun i hi=>.inr ⟨(w4.heap.size,w5.heap.size),by simp,by rcases hat5 with h|h<;>rw[h] at hi<;>simp at hi;omega,(OwnS.blt ho5 hi).1⟩)) (Kp.of_ext xb9) ?_;clear hKK;refine ptm ?_
     refine Xtk 7 ?_;refine Xdn fun w10 hE10 hK10=>?_;obtain⟨ys,HYS⟩:∃ys,Hid (ys=xs++[nn]):=⟨_,lh rfl⟩;have hyl:xs.length+1=ys.length:=by rw[HYS.out];simp
     have HI10:Hid (IL w10 A9 c9 ys):=lh (by
      have h:=OwnS.ext ho9 hE10;refine IL.of_own (base:=wb.heap.size) (e:=3) ?_ ?_
      ·unfold OwnI
       rw[<-hyl,HYS.out]
       simpa using h
      ·rw[HYS.out];intro x hx;rcases List.mem_append.1 hx with hx|hx
       ·exact HI.out.rng x hx
       ·rw[List.mem_singleton.1 hx];unfold I64;omega)
     have z0t:=(xb9.trans hE10).cell z03;have z2t:=(xb9.trans hE10).cell z23;have HX10:=lh (HX3.out.trans (xb9.trans hE10));have hyl2:ys.length+d<=1000:=om;rw[hyl];clear ho9 hg9 hat9 ho6 xb9 hK10 hE10 hK6 hB6 hno hE6 ho5 hg5 hat5 x5 x45 x4 hK4 hE4 hyl z03 z23 z63 HZ3
     go_upto_region 12 with fail
     have hyc:=HI10.out.len
     go_loopw [7] (fun v wr=>∃i:Nat,v=.int .i64 i/\i<=ks.length/\Hid (∀j (hj:j<T.kids.length),j<i->comp T.kids[j] ys=true)/\Ext w10 wr) (fun v _=>ks.length-(intOf v).toNat)
     case atStart=>exact⟨0,rfl,om,lh (fun j _ h=>om),Ext.rfl' _⟩
     case round=>
      obtain⟨i,rfl,hi,HJ,x1⟩:=hrel;have z2r:=x1.cell z2t;by_cases hlt:i<ks.length
      ·have hiI:(i:Int)<ks.length:=om;obtain⟨b,o,hK,n,ht,k0,k1,k2,k3,k4,k5,k6,k7⟩:=kid8G (HC.out.ext (HX10.out.trans x1)) HTL.out (fun i hi hj=>(HK.out i hi hj).ext (HX10.out.trans x1)) hlt;have hK':=hK;subst hK';have HT:=lh ht;clear ht
       go_wp2_with (go_at_call 77;refine(HIH.out wr _ _ HT.out (HG.out _ (List.getElem_mem _)) A9 c9 ys (HI10.out.ext x1) om).mono ?_;rintro e w3 ⟨rfl,x3⟩;obtain⟨b3,hb3⟩:∃b,b=comp (T.kids[i]'(HTL.out▸hlt)) ys:=⟨_,rfl⟩;rw[<-hb3];have HB3:=lh hb3.symm;clear hb3;cases b3)
       ·go_ret
        exact⟨by rw[comp_5f (by rw[HHD.out]) (by rw[HHD.out];exact HNI.out) (by rw[HHD.out];exact HYS.out) _ HB3.out];rfl,(E0.trans HX10.out).trans (x1.trans x3)⟩
       ·exact C1gz2
      ·have hiI:¬(i:Int)<ks.length:=om
       go_wp2_with fail
       go_ret
       exact⟨by rw[comp_5t (by rw[HHD.out]) (by rw[HHD.out];exact HNI.out) (by rw[HHD.out];exact HYS.out) (fun j hj=>HJ.out j hj (by have:=HTL.out;omega))];rfl,(E0.trans HX10.out).trans x1⟩
    ·go_wp2_with fail
     go_ret
     exact⟨by rw[comp_5x (by rw[HHD.out]) (by rw[HHD.out];have:=HHB.out;simpa using this.symm)];rfl,E0.trans HX3.out⟩
   ·by_cases h11:op=11
    ·subst h11;exact C1gz1
    ·have hf4:(op == 4)=false:=by simp[h4]
     have hf5:(op == 5)=false:=by simp[h5]
     have hle:¬5<op:=om;exact C1gz1
theorem zword_any (x:Int)(w:World):Calls Tryz.prog 335 #[.int .i64 x] w (RetB w):=by
 go_enter Tryz.func335,Tryz.ntmps335
 go_wp2
 all_goals
  go_ret
  exact⟨_,rfl,Ext.rfl' _⟩
theorem zin_any (A:Option Addr)(c:Nat)(l:List Sp)(x:Int)(w:World)(hs:SL w A c l):Calls Tryz.prog 315 #[.slice A l.length c,.int .i64 x] w (RetB w):=by
 have hll:=hs.len;have HS:=lh hs;clear hs;go_enter Tryz.func315,Tryz.ntmps315
 go_wp2
 go_loopw [5] (fun i wr=>∃k:Nat,k<=l.length/\i=.int .i64 k/\Ext w wr) (fun i _=>l.length-(intOf i).toNat)
 case atStart=>exact⟨0,Nat.zero_le _,rfl,Ext.rfl' _⟩
 case round=>
  obtain⟨k,hk,rfl,x1⟩:=hrel;by_cases hlt:k<l.length
  ·obtain⟨p1,o1,rfl,g1,g2⟩:=(HS.out.ext x1).get hlt;have hlt2:(k:Int)<l.length:=om
   go_wp2_with fail
   all_goals first
    | (go_ret;exact⟨_,rfl,x1⟩)
    | (
     go_roundw
     case rel=>exact⟨k+1,om,by go_num,x1⟩
     case measure=>simp[intOf];omega)
  ·have hlt2:¬(k:Int)<l.length:=om
   go_wp2_with fail
   go_ret
   exact⟨_,rfl,x1⟩
theorem zholds_any (n:Int)(T:Option Addr)(tc:Nat)(ts:List Int)(i:Nat)(w:World)(hT:IL w T tc ts)(hi:i<=ts.length) :
 Calls Tryz.prog 318 #[.int .i64 n,.slice T ts.length tc,.int .i64 i] w (RetB w):=by
 have hll:=hT.len;have HW:=fun(x:Int) (w':World)=>lh (zword_any x w');have X0:=Ext.rfl' w;by_cases h0:i=0
 ·subst h0;by_cases hl:ts.length=0
  ·have hlI:¬(0:Int)<(ts.length:Int):=om;clear hT;generalize ts.length=tn at *;subst hl;go_enter Tryz.func318,Tryz.ntmps318
   go_wp2_with (go_at_call 335;refine(HW _ _).out.mono ?_;rintro e w2 ⟨b2,rfl,x2⟩;have X2:=Ext.trans (by assumption:Ext w _) x2)
   all_goals
    go_ret
    exact⟨_,rfl,by assumption⟩
  ·have hlI:(0:Int)<(ts.length:Int):=om;obtain⟨b,o,rfl,cb⟩:=hT.get (k:=0) om;simp only[Nat.add_zero] at cb;generalize ts[0]'om=y at *;have HB:=fun(w':World) (x:Ext w w')=>x.cell cb;have hne:((0:Int) == (ts.length:Int))=false:=by simp;omega
   clear hT;generalize ts.length=tn at *;go_enter Tryz.func318,Tryz.ntmps318
   go_wp2_with (go_at_call 335;refine(HW _ _).out.mono ?_;rintro e w2 ⟨b2,rfl,x2⟩;have X2:=Ext.trans (by assumption:Ext w _) x2;have cb2:=HB _ X2)
   all_goals
    go_ret
    exact⟨_,rfl,by assumption⟩
 ·obtain⟨j,rfl⟩:∃j,i=j+1:=⟨i-1,om⟩;have hjl:j<ts.length:=om;obtain⟨b,o,rfl,ca⟩:=hT.get hjl;have HA:=fun(w':World) (x:Ext w w')=>x.cell ca;have ewj:IntKind.i64.wrap ((j:Int)+1-1)=(j:Int):=wj;have hjI:(j:Int)<(ts.length:Int):=om;have hj0:(0:Int)<(j:Int)+1:=om;have hjn:((j:Int)+1 == 0)=false:=by simp;omega
  have ecast:((j+1:Nat):Int)=(j:Int)+1:=om;rw[ecast];by_cases hl:j+1=ts.length
  ·have hlI:¬(j:Int)+1<(ts.length:Int):=om;have heq:((j:Int)+1 == (ts.length:Int))=true:=by simp;omega
   clear hT;generalize ts[j]=y at *;generalize ts.length=tn at *;go_enter Tryz.func318,Tryz.ntmps318
   go_wp2_with (go_at_call 335;refine(HW _ _).out.mono ?_;rintro e w2 ⟨b2,rfl,x2⟩;have X2:=Ext.trans (by assumption:Ext w _) x2;have ca2:=HA _ X2)
   all_goals
    go_ret
    exact⟨_,rfl,by assumption⟩
  ·have hlI:(j:Int)+1<(ts.length:Int):=om;have heq:((j:Int)+1 == (ts.length:Int))=false:=by simp;omega
   obtain⟨b',o',e1,cb⟩:=hT.get (k:=j+1) om;injection e1 with e1;injection e1 with e1 e2 _
   subst e1;subst e2;have HB:=fun(w':World) (x:Ext w w')=>x.cell cb;clear hT;generalize ts[j]=y at *;generalize ts[j+1]'om=z at *;generalize ts.length=tn at *;go_enter Tryz.func318,Tryz.ntmps318
   go_wp2_with (go_at_call 335;refine(HW _ _).out.mono ?_;rintro e w2 ⟨b2,rfl,x2⟩;have X2:=Ext.trans (by assumption:Ext w _) x2;have ca2:=HA _ X2;have cb2:=HB _ X2)
   all_goals
    go_ret
    exact⟨_,rfl,by assumption⟩
def ptB (v:Option Value):List Nat:=match v with|some (.slice (some A) _ _)=>[A.block]|_=>[]
def zL (w:World)(gs:Nat):List Nat:=gs::(ptB (w.cell? ⟨gs,5,none⟩)++ptB (w.cell? ⟨gs,6,none⟩))
theorem mem_ptB {A:Option Addr}{n c:Nat}{x:Nat}:x∈ptB (some (.slice A n c))<->A.map (·.block)=some x:=by
 cases A with
 | none=>simp[ptB]
 | some a=>simp[ptB,eq_comm]
structure ZF (gs:Nat)(a b:World):Prop where
 kp:Kp (zL a gs) a b
 old:∀x∈zL b gs,x∈zL a gs\/a.heap.size<=x
theorem zL_ext {gs:Nat}{a b:World}(x:Ext a b)(h:gs<a.heap.size):zL b gs=zL a gs:=by
 unfold zL;rw[x.cells.1 gs 5 h,x.cells.1 gs 6 h]
namespace ZF
variable {gs:Nat} {a b c w w':World}
theorem of_ext (x:Ext a b)(h:gs<a.heap.size):ZF gs a b:=⟨Kp.of_ext x,fun y hy=>.inl (by rw[zL_ext x h] at hy;exact hy)⟩
theorem refl (w:World)(h:gs<w.heap.size):ZF gs w w:=of_ext (Ext.rfl' w) h
theorem size (h:ZF gs a b):a.heap.size<=b.heap.size:=h.kp.size
theorem trans (h:ZF gs a b)(k:ZF gs b c):ZF gs a c:=
 ⟨⟨k.kp.os.trans h.kp.os,k.kp.tape.trans h.kp.tape,k.kp.output.trans h.kp.output,Nat.le_trans h.size k.size,fun i hi hn=>(k.kp.block i (Nat.lt_of_lt_of_le hi h.size) (fun hm=>by
  rcases h.old i hm with h1|h1
  ·exact hn h1
  ·omega)).trans (h.kp.block i hi hn)⟩,
  fun x hx=>by
   rcases k.old x hx with h1|h1
   ·exact h.old x h1
   ·exact .inr (Nat.le_trans h.size h1)⟩
theorem ext (h:ZF gs a b)(x:Ext b c)(hg:gs<a.heap.size):ZF gs a c:=h.trans (of_ext x (Nat.lt_of_lt_of_le hg h.size))
theorem mk2 {cs:Array Value}{eA cA:Option Addr}{en ec cn cc:Nat}(k:Kp (zL a gs) a b)(h:Blk b gs 341 cs)(h5:cs[5]? = some (.slice eA en ec))(h6:cs[6]? = some (.slice cA cn cc))
 (he:∀x,eA.map (·.block)=some x->x∈zL a gs\/a.heap.size<=x) (hc:∀x,cA.map (·.block)=some x->x∈zL a gs\/a.heap.size<=x):ZF gs a b:=
 ⟨k,fun x hx=>by
  unfold zL at hx;rw[h.cell 5,h.cell 6,h5,h6] at hx;rcases List.mem_cons.1 hx with rfl|hx
  ·exact .inl List.mem_cons_self
  rcases List.mem_append.1 hx with hx|hx
  ·exact he x (mem_ptB.1 hx)
  ·exact hc x (mem_ptB.1 hx)⟩
end ZF
section
variable {w w':World} {base gs tn tc st ns:Nat} {tA:Option Addr} {most fuel:Int} {em:Bool}
theorem SrM.typ (h:SrM w base gs tA tn tc most fuel st em ns){x:Nat}(hx:x∈zL w gs):base<=x/\∃cur T,w.heap[x]? = some (.cells cur T (0,0))/\ZT T:=by
 obtain⟨⟨eA,ec,ends,cA,cc,cps,h1,h2,h3,_⟩,hlo⟩:=h;unfold zL at hx;rw[h1.cell 5,h1.cell 6] at hx;rcases List.mem_cons.1 hx with rfl|hx
 ·exact⟨hlo,_,_,h1,.inl rfl⟩
 rcases List.mem_append.1 hx with hx|hx
 ·have hx:=mem_ptB.1 hx;obtain⟨_,cur,e⟩:=OwnS.blt h2 hx;exact⟨OwnS.row h2 _ hx,cur,_,e,.inr (.inl rfl)⟩
 ·have hx:=mem_ptB.1 hx;obtain⟨_,cur,e⟩:=OwnS.blt h3 hx;exact⟨OwnS.row h3 _ hx,cur,_,e,.inr (.inr rfl)⟩
theorem SrM.gs_lt (h:SrM w base gs tA tn tc most fuel st em ns):gs<w.heap.size:=by
 obtain⟨⟨_,_,_,_,_,_,h1,_⟩,_⟩:=h;exact h1.lt
theorem ZF.blk {g T:Nat}{ds:Array Value}(k:ZF gs w w')(h:SrM w base gs tA tn tc most fuel st em ns)(hb:Blk w g T ds)(hT:¬ZT T):Blk w' g T ds:=
 (k.kp.block g hb.lt (fun hm=>by
  obtain⟨_,cur,T2,e,h2⟩:=h.typ hm;have e2:=hb.symm.trans e;injection e2 with e2;injection e2 with _ e2 _
  exact hT (e2▸h2))).trans hb
variable {bd n:Nat} {w0:World} {kb kb':Int} {p:Option Nat}
theorem GoalAt.zf (h:GoalAt bd w0 w kb n p)(hs:SrM w base gs tA tn tc most fuel st em ns)(k:ZF gs w w'):GoalAt bd w0 w' kb n p:=by
 induction h with
 | nil=>exact .nil
 | mk g kind k2 fr nd d h1 h2 h3 h4 _ ih=>exact .mk g kind k2 fr nd d (k.blk hs h1 de) h2 h3 h4 ih
theorem CapAt.zf {A:Option Addr}{c:Nat}{l:List Sp}(h:CapAt w A c l)(hs:SrM w base gs tA tn tc most fuel st em ns)(k:ZF gs w w'):CapAt w' A c l:=by
 have hn:∀b,A.map (·.block)=some b->¬b∈zL w gs:=fun b hb hq=>by
  obtain⟨cur,hh⟩:=h.2 b hb;obtain⟨_,cur2,T2,e,h2⟩:=hs.typ hq;have e2:=hh.symm.trans e;injection e2 with e2;injection e2 with _ e2 _
  exact absurd (e2▸h2:ZT 54) de
 have kk:KpP (·∈zL w gs) w w':=⟨k.kp.os,k.kp.tape,k.kp.output,k.kp.size,k.kp.block⟩;refine⟨h.1.kpZ kk (fun _ b hb=>hn b hb),fun b hb=>?_⟩;obtain⟨cur,hh⟩:=h.2 b hb;exact⟨cur,(k.kp.block b (Array.getElem?_eq_some_iff.1 hh).1 (hn b hb)).trans hh⟩
end
def RetF (w0:World)(gs:Nat)(tA:Option Addr)(tn tc:Nat)(most:Int)(fuel:Nat)(st ns:Nat)(w:World)(e:Ending)(w':World):Prop:=
 ∃(b:Bool) (st':Nat) (em:Bool) (ns':Nat),e=.returned (.bool b)/\SrM w' w0.heap.size gs tA tn tc most fuel st' em ns'/\Ext w0 w'/\ZF gs w w'/\st<=st'/\ns<=ns'/\ns'<=ns+3*(st'-st)+1/\
  ((em=false/\st'<=fuel)\/(em=true/\b=true/\st'=fuel+1))
def RetStp (w0:World)(gs:Nat)(tA:Option Addr)(tn tc:Nat)(most:Int)(fuel:Nat)(st ns:Nat)(w:World)(e:Ending)(w':World):Prop:=
 e=.returned (.bool (decide (st+1<=fuel)))/\SrM w' w0.heap.size gs tA tn tc most fuel (st+1) (!decide (st+1<=fuel)) ns/\Ext w0 w'/\ZF gs w w'
theorem zL_mem {w:World}{gs T:Nat}{cs:Array Value}{eA cA:Option Addr}{en ec cn cc:Nat}(h:Blk w gs T cs)(h5:cs[5]? = some (.slice eA en ec))(h6:cs[6]? = some (.slice cA cn cc)) :
 (∀x,eA.map (·.block)=some x->x∈zL w gs)/\(∀x,cA.map (·.block)=some x->x∈zL w gs):=by
 unfold zL;rw[h.cell 5,h.cell 6,h5,h6];exact⟨fun x hx=>List.mem_cons_of_mem _ (List.mem_append.2 (.inl (mem_ptB.2 hx))),fun x hx=>List.mem_cons_of_mem _ (List.mem_append.2 (.inr (mem_ptB.2 hx)))⟩
theorem SrM.put {w:World}{base gs:Nat}{eA cA:Option Addr}{ec cc:Nat}{ends:List Int}{cps:List Value}{i:Nat}{v:Value}{cs:Array Value}
 (hb:Blk w gs 341 cs) (h5:cs[5]? = some (.slice eA ends.length ec)) (h6:cs[6]? = some (.slice cA cps.length cc)) (hi:i≠5/\i≠6)
 (he:OwnI w base 3 eA ec ends) (hc:OwnS w base 37 1 cA cps.length cc cps) :
 OwnI (w.setCell ⟨gs,i,none⟩ v) base 3 eA ec ends/\OwnS (w.setCell ⟨gs,i,none⟩ v) base 37 1 cA cps.length cc cps/\ZF gs w (w.setCell ⟨gs,i,none⟩ v):=by
 have hm:=zL_mem hb h5 h6;refine⟨OwnS.far he (p:=⟨gs,i,none⟩) (own_blk he hb de) v,OwnS.far hc (p:=⟨gs,i,none⟩) (own_blk hc hb de) v,?_⟩;refine ZF.mk2 (Kp.set (Kp.refl _ _) (p:=⟨gs,i,none⟩) (.inl List.mem_cons_self) v) (hb.set i v) (eA:=eA) (en:=ends.length) (ec:=ec) (cA:=cA) (cn:=cps.length) (cc:=cc) ?_ ?_ (fun x hx=>.inl (hm.1 x hx)) (fun x hx=>.inl (hm.2 x hx))
 ·rw[Array.getElem?_setIfInBounds,if_neg hi.1];exact h5
 ·rw[Array.getElem?_setIfInBounds,if_neg hi.2];exact h6
theorem zstep_any (w0 w:World)(gs:Nat)(tA:Option Addr)(tn tc:Nat)(most:Int)(fuel st ns:Nat)(h:SrM w w0.heap.size gs tA tn tc most fuel st false ns)(x0:Ext w0 w)(hst:st<=fuel)(hf:fuel<=1000000000000) :
 Calls Tryz.prog 314 #[.pointer (some ⟨gs,0,none⟩)] w (RetStp w0 gs tA tn tc most fuel st ns w):=by
 obtain⟨⟨eA,ec,ends,cA,cc,cps,hb,he,hc,h1,h2,h3,h4⟩,hlo⟩:=h;obtain⟨he1,hc1,z1⟩:=SrM.put (i:=3) (v:=.int .i64 ((st:Int)+1)) hb rfl rfl om he hc;have hb1:=hb.set 3 (.int .i64 ((st:Int)+1));have x1:Ext w0 (w.setCell ⟨gs,3,none⟩ (.int .i64 ((st:Int)+1))):=x0.setNew (p:=⟨gs,3,none⟩) hlo _;have c3:w.cell? ⟨gs,3,none⟩=some (.int .i64 st):=hb.cell 3;have f3:=hb.frz 3;have ewp:IntKind.i64.wrap ((st:Int)+1)=(st:Int)+1:=wj;have HE:=lh h1;have HC:=lh h2;have H3:=lh h3;have H4:=lh h4;have HX1:=lh x1;have HE1:=lh he1;have HC1:=lh hc1;have HZ1:=lh z1;have HGL:=lh hb.lt;have HB1:Hid (Blk (w.setCell ⟨gs,3,none⟩ (.int .i64 ((st:Int)+1))) gs 341 #[.slice tA tn tc,.int .i64 most,.int .i64 fuel,.int .i64 ((st:Int)+1),.bool false,.slice eA ends.length ec,.slice cA cps.length cc]):=lh (by simpa using hb1);clear h1 h2 h3 h4 x1 he1 hc1 z1 he hc hb hb1;go_enter Tryz.func314,Tryz.ntmps314
 go_upto_region 2 with fail
 generalize w.setCell ⟨gs,3,none⟩ (.int .i64 ((st:Int)+1))=wa at *;clear c3 f3;have c2:wa.cell? ⟨gs,2,none⟩=some (.int .i64 fuel):=HB1.out.cell 2;have c3:wa.cell? ⟨gs,3,none⟩=some (.int .i64 ((st:Int)+1)):=HB1.out.cell 3;have c4:wa.cell? ⟨gs,4,none⟩=some (.bool false):=HB1.out.cell 4;have f4:=HB1.out.frz 4;by_cases hlt:st+1<=fuel
 ·have hgt:¬((fuel:Int)<(st:Int)+1):=om
  go_wp2_with (go_quiet (fail))
  go_ret
  have xd:=Ext.drewN wa nq;refine⟨by simp[hlt],⟨⟨eA,ec,ends,cA,cc,cps,?_,OwnS.ext HE1.out xd,OwnS.ext HC1.out xd,HE.out,HC.out,H3.out,H4.out⟩,hlo⟩,HX1.out.trans xd,HZ1.out.ext xd HGL.out⟩;have b:=HB1.out.ext xd
  simpa[hlt] using b
 ·have hgt:(fuel:Int)<(st:Int)+1:=om
  go_upto_region 3 with(go_quiet (fail))
  have xd:=Ext.drewN wa nq;have HB2:=lh (HB1.out.ext xd);have HX2:=lh (HX1.out.trans xd);have HE2:=lh (OwnS.ext HE1.out xd);have HC2:=lh (OwnS.ext HC1.out xd);have HZ2:=lh (HZ1.out.ext xd HGL.out);clear xd c2 c3 c4 f4 HB1 HX1 HE1 HC1 HZ1;generalize wa.drewN nq=wb at *;have f4:=HB2.out.frz 4;have c4:wb.cell? ⟨gs,4,none⟩=some (.bool false):=HB2.out.cell 4;obtain⟨he3,hc3,z3⟩:=SrM.put (i:=4) (v:=.bool true) HB2.out rfl rfl om HE2.out HC2.out;have hb3:=HB2.out.set 4 (.bool true);have x3:Ext w0 (wb.setCell ⟨gs,4,none⟩ (.bool true)):=HX2.out.setNew (p:=⟨gs,4,none⟩) hlo _
  go_wp2_with fail
  go_ret
  refine⟨by simp[hlt],⟨⟨eA,ec,ends,cA,cc,cps,?_,he3,hc3,HE.out,HC.out,H3.out,H4.out⟩,hlo⟩,x3,HZ2.out.trans z3⟩
  simpa[hlt] using hb3
def RetWi (n:Nat)(w:World)(e:Ending)(w':World):Prop:=∃(A:Option Addr) (c:Nat) (l:List Sp),e=.returned (.slice A l.length c)/\l.length=n/\CapAt w' A c l/\Ext w w'
theorem flatS_set2:∀(l:List Sp) (m:Nat) (p q:Int),m<l.length->((flatS l).set (m*2) (.int .i64 p)).set (m*2+1) (.int .i64 q)=flatS (l.set m (p,q))
 | [],m,p,q,h=>by simp at h
 | s::l,0,p,q,_=>by simp[flatS]
 | s::l,m+1,p,q,h=>by
  have ih:=flatS_set2 l m p q (by simpa using h);have e:(m+1)*2=m*2+1+1:=om;rw[e];have e2:flatS (s::l)=.int .i64 s.1::.int .i64 s.2::flatS l:=by simp[flatS]
  rw[e2];simp only[List.set_cons_succ];rw[ih];simp[flatS]
theorem cap_of_own {w:World}{base c:Nat}{A:Option Addr}{l:List Sp}(h:OwnS w base 54 2 A l.length c (flatS l))(hr:∀s∈l,S64 s):CapAt w A c l:=
 ⟨SL.of_ownT h hr,fun b hb=>(OwnS.blt h hb).2⟩
theorem zwith_any (w:World)(A:Option Addr)(c:Nat)(l:List Sp)(n p q:Int)(hC:CapAt w A c l)(hl:l.length<=1000)(hn:I64 n)(hp:I64 p)(hq:I64 q) :
 Calls Tryz.prog 279 #[.slice A l.length c,.int .i64 n,.int .i64 p,.int .i64 q] w (RetWi l.length w):=by
 obtain⟨iA,jA0,jA1,jA2,jA3⟩:=info_parts infoA2;have hll:=hC.1.len;have E0:=Ext.alloc w (.cells #[] 54);have HO:Hid (OwnS (w.alloc (.cells #[] 54)) w.heap.size 54 2 (some ⟨w.heap.size,0,none⟩) 0 0 []):=lh (OwnS.of_blk (n:=0) (c:=0) (Blk.new w 54 #[]) (Nat.le_refl _) si si um);have HCL:=lh (hC.1.ext E0).cells;have HR:=lh hC.1.rng;have HN:=lh hn;have HPQ:=lh (show S64 (p,q) from⟨hp,hq⟩);clear hC hp hq hn;go_enter Tryz.func279,Tryz.ntmps279
 go_upto_region 2 with(at_builtin;refine wpList_app _ rfl _ _ _ rfl w.heap.size 54 iA _ 2 16 Tryz.underlying37 jA0 jA1 jA2 jA3 rfl om _ 0 0 [] rfl HO.out _ l.length c (flatS l) rfl (flatS_len l) HCL.out (flatS_one _) um om si ?_;intro A2 c2 w2 ho2 hg2 hat2)
 have x2:=E0.app HO.out hg2;simp only[Nat.zero_add,List.nil_append] at ho2 ⊢;have hc2:=OwnS.caps ho2;have HO2:=lh ho2;clear E0 HO HCL hg2 hat2 ho2;by_cases h1:1<=n
 ·by_cases h2:n<=l.length
  ·obtain⟨m,rfl⟩:∃m:Nat,n=(m:Int)+1:=⟨(n-1).toNat,om⟩;have hm:m<l.length:=om;have ewp:IntKind.i64.wrap ((m:Int)+1-1)=(m:Int):=by have:=HN.out;unfold I64 at this;rw[IntKind.wrap_i64];omega
   have hmI:(m:Int)<l.length:=om;have hfl:m*2<(flatS l).length:=by rw[flatS_len];omega
   obtain⟨g,rfl,hbg,g1,gf,glt,gst⟩:=OwnS.store HO2.out hfl;have ho3:=gst (.int .i64 p);have hfl2:m*2+1<((flatS l).set (m*2) (.int .i64 p)).length:=by rw[List.length_set,flatS_len];omega
   obtain⟨g',he,_,k1,kf,klt,kst⟩:=OwnS.store ho3 hfl2;injection he with he;injection he with he _ _
   subst he;have ho4:=kst (.int .i64 q);rw[flatS_set2 _ _ _ _ hm] at ho4;have x4:Ext w ((w2.setCell ⟨g,m*2,none⟩ (.int .i64 p)).setCell ⟨g,m*2+1,none⟩ (.int .i64 q)):=(x2.setNew (p:=⟨g,m*2,none⟩) hbg _).setNew (p:=⟨g,m*2+1,none⟩) hbg _;obtain⟨z,k0⟩:∃z,w2.cell? ⟨g,m*2+1,none⟩=some z:=by
    have hfl3:m*2+1<(flatS l).length:=by rw[flatS_len];omega
    obtain⟨g',he,_,k1,_⟩:=OwnS.store HO2.out hfl3;injection he with he;injection he with he _ _
    subst he;exact⟨_,k1⟩
   have kf0:w2.frozen? ⟨g,m*2+1,none⟩=false:=by
    have hfl3:m*2+1<(flatS l).length:=by rw[flatS_len];omega
    obtain⟨g',he,_,_,k1,_⟩:=OwnS.store HO2.out hfl3;injection he with he;injection he with he _ _
    subst he;exact k1
   have HO4:=lh ho4;have HX4:=lh x4;clear ho3 ho4 x4 gst kst k1 kf klt
   go_wp2_with fail
   go_ret
   refine⟨some ⟨g,0,none⟩,c2,l.set m (p,q),by simp,by simp,?_,HX4.out⟩;have ho:=HO4.out;rw[show l.length=(l.set m (p,q)).length from by simp] at ho;exact cap_of_own ho (fun s hs=>by
    rcases List.mem_or_eq_of_mem_set hs with h|h
    ·exact HR.out s h
    ·exact h▸HPQ.out)
  ·go_wp2_with fail
   go_ret
   exact⟨_,_,l,rfl,rfl,cap_of_own HO2.out HR.out,x2⟩
 ·go_wp2_with fail
  go_ret
  exact⟨_,_,l,rfl,rfl,cap_of_own HO2.out HR.out,x2⟩
theorem infoC2:(Tryz.prog.info? 37).map (fun i=>(i.zero,i.size,i.bytes))=some (some (.slice none 0 0),1,24):=by kernel_rfl
theorem slices_one {l:List Value}(h:∀v∈l,∃A n c,v=.slice A n c):∀u∈l,u.oneCell'=true:=fun u hu=>by
 obtain⟨A,n,c,rfl⟩:=h u hu
 rfl
theorem own_apart {w:World}{b1 b2 e1 e2 s1 s2 n1 n2 c1 c2:Nat}{A B:Option Addr}{xs ys:List Value}(h:OwnS w b1 e1 s1 A n1 c1 xs)(k:OwnS w b2 e2 s2 B n2 c2 ys)(hne:e1≠e2):∀b,A.map (·.block)=some b->B.map (·.block)=some b->False:=fun b h1 h2=>by
 obtain⟨_,cur,q⟩:=OwnS.blt h h1;obtain⟨_,cur2,q2⟩:=OwnS.blt k h2;have e:=q.symm.trans q2;injection e with e;injection e with _ e _
 exact hne e
theorem zint_len {l:List Int}{n:Nat}(h:l.length=n)(x:Int):∃ys,Hid (ys=l++[x])/\Hid (ys.length=n+1):=⟨_,lh rfl,lh (by simp[h])⟩
theorem zrun_nil (w0 w:World)(gs:Nat)(tA:Option Addr)(tn tc:Nat)(most:Int)(fuel st ns i:Nat)(cA:Option Addr)(cc:Nat)(cl:List Sp)(x0:Ext w0 w)(hs:SrM w w0.heap.size gs tA tn tc most fuel st false ns)(hst:st<=fuel)(hns:ns<=1000000000)(hi:i<=1000000000) :
 Calls Tryz.prog 216 #[.pointer (some ⟨gs,0,none⟩),.pointer none,.int .i64 i,.slice cA cl.length cc] w (RetF w0 gs tA tn tc most fuel st ns w):=by
 obtain⟨⟨eA,ec,ends,kA,kc,cps,hb,he,hk,h1,h2,h3,h4⟩,hlo⟩:=hs;obtain⟨iC,jC0,jC1,jC2,jC3⟩:=info_parts infoC2;obtain⟨ys,HY,HYL⟩:=zint_len h1 (i:Int);have hcE:=OwnS.caps he;have hcK:=OwnS.caps hk;have c5:w.cell? ⟨gs,5,none⟩=some (.slice eA ends.length ec):=hb.cell 5;have f5:=hb.frz 5;have HB:=lh hb;have HE:=lh he;have HK:=lh hk;have H1:=lh h1;have H2:=lh h2;have H3:=lh h3;have H4:=lh h4;have HX:=lh x0;have HM:=lh (zL_mem hb (eA:=eA) (en:=ends.length) (ec:=ec) (cA:=kA) (cn:=cps.length) (cc:=kc) rfl rfl);have hel:ends.length<=1000000000:=om;have hkl:cps.length<=1000000000:=om;have hgE:=own_blk he hb de;have hgK:=own_blk hk hb de;have HEK:=lh (own_apart he hk de);have HGL:=lh hb.lt;clear hb he hk h1 h2 h3 h4 x0;go_enter Tryz.func216,Tryz.ntmps216
 go_upto_region 3 with(at_builtin;refine wpList_app1I (w1:=w) rfl _ _ _ rfl 3 infoInt Tryz.underlying22 w0 HX.out i rfl eA ec ends rfl HE.out rfl om ys HY.out ?_;intro A2 c2 w2 ho2 x2 hg2 hat2;have hb2:=(KpP.of_grown hg2).blk HB.out hgE;have hk2:=OwnS.kp HK.out (KpP.of_grown hg2) (fun b h1 h2=>HEK.out b h2 h1);have HB2:=lh hb2;have HK2:=lh hk2;have HO2:=lh ho2;have HG2:=lh hg2;have HX2:=lh x2;have HAT:=lh hat2;have c5b:w2.cell? ⟨gs,5,none⟩=some (.slice eA ends.length ec):=hb2.cell 5;have f5b:=hb2.frz 5;clear ho2 x2 hg2 hat2 hb2 hk2)
 have hg5:=HM.out.1;have B3:Blk (w2.setCell ⟨gs,5,none⟩ (.slice A2 ys.length c2)) gs 341 #[.slice tA tn tc,.int .i64 most,.int .i64 fuel,.int .i64 st,.bool false,.slice A2 ys.length c2,.slice kA cps.length kc]:=by simpa using HB2.out.set 5 (.slice A2 ys.length c2)
 have HE3:=lh (OwnS.far HO2.out (p:=⟨gs,5,none⟩) (own_blk HO2.out HB2.out de) (.slice A2 ys.length c2));have HK3:=lh (OwnS.far HK2.out (p:=⟨gs,5,none⟩) (own_blk HK2.out HB2.out de) (.slice A2 ys.length c2));have HX3:=lh (HX2.out.setNew (p:=⟨gs,5,none⟩) hlo (.slice A2 ys.length c2));have HZ3:Hid (ZF gs w (w2.setCell ⟨gs,5,none⟩ (.slice A2 ys.length c2))):=lh (by
  have k2:Kp (zL w gs) w w2:=(Kp.refl _ w).kpP (KpP.of_grown HG2.out) (fun i hi=>HM.out.1 i hi);refine ZF.mk2 (k2.set (p:=⟨gs,5,none⟩) (.inl List.mem_cons_self) _) B3 (eA:=A2) (en:=ys.length) (ec:=c2) (cA:=kA) (cn:=cps.length) (cc:=kc) rfl rfl (fun x hx=>?_) (fun x hx=>.inl (HM.out.2 x hx));rcases HAT.out with h|h
  ·exact .inl (HM.out.1 x (h▸hx))
  ·rw[h] at hx;injection hx with hx;exact .inr om)
 generalize w2.setCell ⟨gs,5,none⟩ (.slice A2 ys.length c2)=w3 at *;have c6:w3.cell? ⟨gs,6,none⟩=some (.slice kA cps.length kc):=B3.cell 6;have HB3:=lh B3;have f6:=B3.frz 6;have hgK3:=own_blk HK3.out B3 de;have HGL3:=lh B3.lt;have hx3:=HX3.out.size;clear c5b f5b HB2 HK2 HO2 HG2 HX2 HAT B3 hg5 c5 f5 HB HE HK HX HEK hgE hgK
 go_upto_region 4 with(at_builtin;refine wpList_app _ rfl _ _ _ rfl w0.heap.size 37 iC _ 1 24 Tryz.underlying339 jC0 jC1 jC2 jC3 rfl om kA cps.length kc cps rfl (OwnS.ext HK3.out (Ext.alloc _ _)) _ 1 1 [.slice cA cl.length cc] rfl rfl (blk_cells (Blk.new _ _ _)) (slices_one si) um om (by rw[World.size_alloc];omega) ?_;intro A4 c4 w4 ho4 hg4 hat4;have E3:=Ext.alloc w3 (.cells #[.slice cA cl.length cc] 37);have hb4:=(KpP.of_grown hg4).blk (HB3.out.ext E3) hgK3;have he4:=OwnS.kp (OwnS.ext HE3.out E3) (KpP.of_grown hg4) (fun b h1 h2=>own_apart HE3.out HK3.out de b h1 h2);have HB4:=lh hb4;have HE4:=lh he4;have HO4:=lh ho4;have HX4:=lh (Ext.app (HX3.out.trans E3) (OwnS.ext HK3.out E3) hg4);have HK4:=lh (((Kp.of_ext E3:Kp (zL w3 gs) w3 _).kpP (KpP.of_grown hg4) (fun i hi=>(zL_mem HB3.out (eA:=A2) (en:=ys.length) (ec:=c2) (cA:=kA) (cn:=cps.length) (cc:=kc) rfl rfl).2 i hi)));have HAT:=lh hat4;have c6b:w4.cell? ⟨gs,6,none⟩=some (.slice kA cps.length kc):=hb4.cell 6;have f6b:=hb4.frz 6;clear ho4 hg4 hat4 hb4 he4 E3)
 obtain⟨zs,HZS,HZL⟩:∃zs:List Value,Hid (zs=cps++[.slice cA cl.length cc])/\Hid (zs.length=cps.length+1):=⟨_,lh rfl,lh si⟩;have B5:Blk (w4.setCell ⟨gs,6,none⟩ (.slice A4 (cps.length+1) c4)) gs 341 #[.slice tA tn tc,.int .i64 most,.int .i64 fuel,.int .i64 st,.bool false,.slice A2 ys.length c2,.slice A4 (cps.length+1) c4]:=by simpa using HB4.out.set 6 (.slice A4 (cps.length+1) c4)
 have HE5:=lh (OwnS.far HE4.out (p:=⟨gs,6,none⟩) (own_blk HE4.out HB4.out de) (.slice A4 (cps.length+1) c4));have HO5:=lh (OwnS.far HO4.out (p:=⟨gs,6,none⟩) (own_blk HO4.out HB4.out de) (.slice A4 (cps.length+1) c4));have HX5:=lh (HX4.out.setNew (p:=⟨gs,6,none⟩) hlo (.slice A4 (cps.length+1) c4));have HZ5:Hid (ZF gs w (w4.setCell ⟨gs,6,none⟩ (.slice A4 (cps.length+1) c4))):=lh (by
  refine HZ3.out.trans ?_;have hm3:=zL_mem HB3.out (eA:=A2) (en:=ys.length) (ec:=c2) (cA:=kA) (cn:=cps.length) (cc:=kc) rfl rfl;refine ZF.mk2 (HK4.out.set (p:=⟨gs,6,none⟩) (.inl List.mem_cons_self) _) B5 (eA:=A2) (en:=ys.length) (ec:=c2) (cA:=A4) (cn:=cps.length+1) (cc:=c4) rfl rfl (fun x hx=>.inl (hm3.1 x hx)) (fun x hx=>?_);rcases HAT.out with h|h
  ·exact .inl (hm3.2 x (h▸hx))
  ·rw[h] at hx;injection hx with hx;rw[World.size_alloc] at hx;exact .inr om)
 have HB5:=lh B5;have HGL5:=lh B5.lt;clear c6 f6 c6b f6b HB4 HE4 HO4 HX4 HK4 HAT HB3 HE3 HK3 HX3 HZ3 hgK3 B5 hx3;generalize w4.setCell ⟨gs,6,none⟩ (.slice A4 (cps.length+1) c4)=w5 at *;have c1:w5.cell? ⟨gs,1,none⟩=some (.int .i64 most):=HB5.out.cell 1;have c5:w5.cell? ⟨gs,5,none⟩=some (.slice A2 ys.length c2):=HB5.out.cell 5;have HC2:=OwnS.caps HE5.out;have fin:∀b:Bool,∀m,RetF w0 gs tA tn tc most fuel st ns w (.returned (.bool b)) (w5.drewN m):=fun b m=>by
  have xd:=Ext.drewN w5 m;refine⟨b,st,false,ns+1,rfl,⟨⟨A2,c2,ys,A4,c4,zs,?_,OwnS.ext HE5.out xd,?_,by rw[HYL.out],by rw[HZL.out,H2.out],?_,?_⟩,hlo⟩,HX5.out.trans xd,HZ5.out.ext xd HGL.out,om,om,om,.inl ⟨rfl,hst⟩⟩
  ·rw[HZL.out];exact HB5.out.ext xd
  ·rw[HZL.out,HZS.out];exact OwnS.ext HO5.out xd
  ·rw[HY.out];intro x hx;rcases List.mem_append.1 hx with h|h
   ·exact H3.out x h
   ·obtain rfl:=List.mem_singleton.1 h;unfold I64;omega
  ·rw[HZS.out];intro x hx;rcases List.mem_append.1 hx with h|h
   ·exact H4.out x h
   ·obtain rfl:=List.mem_singleton.1 h;exact⟨_,_,_,rfl⟩
 have HF:=lh fin;clear fin HB5 HE5 HO5 HX5 HZ5;by_cases hm:0<=most
 ·go_wp2_with (go_quiet (fail))
  go_ret
  exact HF.out _ _
 ·go_wp2_with (go_quiet (fail))
  go_ret
  exact HF.out _ _
end

end Go.Proofs.YtmgpefenkilffaaGreat
