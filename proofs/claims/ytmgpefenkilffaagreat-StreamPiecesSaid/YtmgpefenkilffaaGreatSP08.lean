/- Texts of this proof: Y1 G9 C2 C5 C1 C1g TX. -/
import Derived.Test.YtmgpefenkilffaaGreatSP06
set_option linter.all false
set_option maxRecDepth 100000
set_option maxHeartbeats 16000000
namespace Go.Proofs.YtmgpefenkilffaaGreat
section
open Go.RowKit
theorem infoBl:(Tryz.prog.info? 4).map (fun i=>(i.zero,i.size,i.bytes))=some (some (.bool false),1,1):=by kernel_rfl
end
section
open Go.RowKit
attribute [local go_sem ↓] Go.wp_at_zero Go.wp_at_succ
theorem infoIn:(Tryz.prog.info? 128).map (fun i=>(i.zero,i.size,i.bytes))=some (some (.agg #[.int .i64 0,.int .i64 0,.int .i64 0,.int .i64 0,.slice none 0 0]),5,56):=by kernel_rfl
theorem kid8x {bd:Nat}{S:Nat->Prop}{w w0:World}{d:Nat}{K:Option Addr}{ks:List Value}(x:Ext w0 w)(hc:CellsAt w0 K (ks.flatMap cellsOf))(ht:∀u∈ks,TreeAt bd S w0 d u){i:Nat}(hi:i<ks.length) :
 ∃b o,K=some ⟨b,o,none⟩/\∃n:Nd,TreeAt bd S w0 d n.val/\w.cell? ⟨b,o+i*8,none⟩=some (.int .i64 n.op)/\w.cell? ⟨b,o+i*8+1,none⟩=some (.slice n.A n.l.length n.c)/\w.cell? ⟨b,o+i*8+2,none⟩=some (.slice n.K n.ks.length n.kc)/\
  w.cell? ⟨b,o+i*8+3,none⟩=some (.int .i64 n.mn)/\w.cell? ⟨b,o+i*8+4,none⟩=some (.int .i64 n.mx)/\w.cell? ⟨b,o+i*8+5,none⟩=some (.int .i64 n.md)/\w.cell? ⟨b,o+i*8+6,none⟩=some (.int .i64 n.n)/\w.cell? ⟨b,o+i*8+7,none⟩=some (.bool n.neg):=by
 obtain⟨b,o,hK,n,h,k0,k1,k2,k3,k4,k5,k6,k7⟩:=kid8 hc ht hi;exact⟨b,o,hK,n,h,x.cell k0,x.cell k1,x.cell k2,x.cell k3,x.cell k4,x.cell k5,x.cell k6,x.cell k7⟩
def compF (h:Hd)(l:List (List Int->Bool))(xs:List Int):Bool:=if h.op=5 then(if h.n∈xs then false else l.all (fun c=>c (xs++[h.n]))) else l.all (fun c=>c xs)
def comp:Tm->List Int->Bool:=Tm.fold compF
theorem comp_eq (T:Tm):comp T=compF T.hd (T.kids.map comp):=Tm.fold_eq _ _
theorem comp_n {T:Tm}{xs:List Int}(h:T.hd.op≠5):comp T xs=T.kids.all (fun t=>comp t xs):=by rw[comp_eq];simp[compF,h,List.all_map,Function.comp_def]
theorem comp_5 {T:Tm}{xs:List Int}(h:T.hd.op=5)(hn:T.hd.n∉xs):comp T xs=T.kids.all (fun t=>comp t (xs++[T.hd.n])):=by rw[comp_eq];simp[compF,h,hn,List.all_map,Function.comp_def]
theorem comp_5x {T:Tm}{xs:List Int}(h:T.hd.op=5)(hn:T.hd.n∈xs):comp T xs=false:=by rw[comp_eq];simp[compF,h,hn]
theorem comp_nf {T:Tm}{xs:List Int}(h:T.hd.op≠5){i:Nat}(hi:i<T.kids.length)(hf:comp T.kids[i] xs=false):comp T xs=false:=by
 rw[comp_n h,List.all_eq_false];exact⟨_,List.getElem_mem hi,by simp[hf]⟩
theorem comp_nt {T:Tm}{xs:List Int}(h:T.hd.op≠5)(ht:∀i (hi:i<T.kids.length),comp T.kids[i] xs=true):comp T xs=true:=by
 rw[comp_n h,List.all_eq_true];intro x hx;obtain⟨i,hi,rfl⟩:=List.getElem_of_mem hx;exact ht i hi
theorem comp_5f {T:Tm}{xs ys:List Int}(h:T.hd.op=5)(hn:T.hd.n∉xs)(hy:ys=xs++[T.hd.n]){i:Nat}(hi:i<T.kids.length)(hf:comp T.kids[i] ys=false):comp T xs=false:=by
 subst hy;rw[comp_5 h hn,List.all_eq_false];exact⟨_,List.getElem_mem hi,by simp[hf]⟩
theorem comp_5t {T:Tm}{xs ys:List Int}(h:T.hd.op=5)(hn:T.hd.n∉xs)(hy:ys=xs++[T.hd.n])(ht:∀i (hi:i<T.kids.length),comp T.kids[i] ys=true):comp T xs=true:=by
 subst hy;rw[comp_5 h hn,List.all_eq_true];intro x hx;obtain⟨i,hi,rfl⟩:=List.getElem_of_mem hx;exact ht i hi
theorem comp_bare {u C:Int}(hu:Go.bits BinOp.and IntKind.i64 u 64=0){T:Tm}(h:GdT u C T):∀xs,comp T xs=true:=by
 induction h with
 | mk T h _ ih=>
  intro xs;have h5:T.hd.op≠5:=by
   intro e;rcases h.num with h|h|h|h|h|h<;>(have:=h.1;omega)
  exact comp_nt h5 (fun i hi=>ih _ (List.getElem_mem hi) xs)
theorem C1gz2 {P:Prop} (h:P:=by
 go_roundw
 case rel=>exact⟨i+1,by go_num,om,lh (fun j hj h=>by
  by_cases hji:j<i
  ·exact HJ.out j hj hji
  ·obtain rfl:j=i:=om;exact HB3.out),x1.trans x3⟩
 case measure=>simp[intOf];omega):P:=h
theorem C1gz1 {P:Prop} (h:P:=by
 go_upto_region 12 with fail
 go_loopw [7] (fun v wr=>∃i:Nat,v=.int .i64 i/\i<=ks.length/\Hid (∀j (hj:j<T.kids.length),j<i->comp T.kids[j] xs=true)/\Ext wa wr) (fun v _=>ks.length-(intOf v).toNat)
 case atStart=>exact⟨0,rfl,om,lh (fun j _ h=>om),Ext.rfl' _⟩
 case round=>
  obtain⟨i,rfl,hi,HJ,x1⟩:=hrel;have z2r:=x1.cell z2;by_cases hlt:i<ks.length
  ·have hiI:(i:Int)<ks.length:=om;obtain⟨b,o,hK,n,ht,k0,k1,k2,k3,k4,k5,k6,k7⟩:=kid8G (HC.out.ext (XR.trans x1)) HTL.out (fun i hi hj=>(HK.out i hi hj).ext (XR.trans x1)) hlt;have hK':=hK;subst hK';have HT:=lh ht;clear ht
   go_wp2_with (go_at_call 77;refine(HIH.out wr _ _ HT.out (HG.out _ (List.getElem_mem _)) R rc xs (HI.out.ext x1) om).mono ?_;rintro e w3 ⟨rfl,x3⟩;obtain⟨b3,hb3⟩:∃b,b=comp (T.kids[i]'(HTL.out▸hlt)) xs:=⟨_,rfl⟩;rw[<-hb3];have HB3:=lh hb3.symm;clear hb3;cases b3)
   ·go_ret
    exact⟨by rw[comp_nf (by rw[HHD.out];simp;try omega) _ HB3.out];rfl,E0.trans (x1.trans x3)⟩
   ·exact C1gz2
  ·have hiI:¬(i:Int)<ks.length:=om
   go_wp2_with fail
   go_ret
   exact⟨by rw[comp_nt (by rw[HHD.out];simp;try omega) (fun j hj=>HJ.out j hj (by have:=HTL.out;omega))];rfl,E0.trans x1⟩):P:=h
theorem xcompiles_G (u C:Int)(S:Nat->Prop):∀(d:Nat) (w:World) (v:Value) (T:Tm),TreeG 3 S w d v T->GdT u C T->∀(R:Option Addr) (rc:Nat) (xs:List Int),IL w R rc xs->xs.length+d<=1000->Calls Tryz.prog 77 #[v,.slice R xs.length rc] w (RetV (.bool (comp T xs)) w):=by
 intro d;induction d with
 | zero=>intro w v T h;obtain⟨e,he⟩:=h.pos;omega
 | succ d ih=>
  intro w v T h hg R rc xs hI hlen;obtain⟨n,rfl,hok,hsl,hkl,hkc,hcl,hhd,htl,hks⟩:=h.node;obtain⟨hho,hgk⟩:HdOk u C T.hd T.kids/\∀t∈T.kids,GdT u C t:=by cases hg with|mk _ h1 h2=>exact⟨h1,h2⟩
  have HHO:=lh hho;have HG:=lh hgk;clear hg hho hgk;obtain⟨op,A,c,l,K,kc,ks,mn,mx,md,nn,neg⟩:=n;have hop:=hok.op;simp only[Nd.hd] at hhd;have HHD:=lh hhd;have HTL:=lh htl;clear hhd htl;have hone:=hok.one;have hmd:=hok.md;have hn:=hok.n
  simp only at hop hone hmd hn hsl hkl hkc hcl hks
  unfold Nd.val
  simp only
  have HIH:=lh ih;clear ih h hok;have hrl:=hI.len;have B0:=Blk.new w 61 #[.int .i64 op,.slice A l.length c,.slice K ks.length kc,.int .i64 mn,.int .i64 mx,.int .i64 md,.int .i64 nn,.bool neg];have E0:=Ext.alloc w (.cells #[.int .i64 op,.slice A l.length c,.slice K ks.length kc,.int .i64 mn,.int .i64 mx,.int .i64 md,.int .i64 nn,.bool neg] 61);have HC:=lh (hcl.ext E0);have HK:=lh (fun i hi hj=>(hks i hi hj).ext E0);have HKL:ks.length<=kc/\kc<=9223372036854775807:=⟨hkl,by unfold maxLen at hkc;omega⟩;have HI:=lh (hI.ext E0);clear hcl hks hsl hkl hkc hI;go_enter Tryz.func77,Tryz.ntmps77
  go_upto_region 1 with fail
  obtain⟨gx,hgx⟩:∃gx,gx=w.heap.size:=⟨_,rfl⟩
  rw[<-hgx] at B0 ⊢;clear hgx;generalize w.alloc (.cells #[.int .i64 op,.slice A l.length c,.slice K ks.length kc,.int .i64 mn,.int .i64 mx,.int .i64 md,.int .i64 nn,.bool neg] 61)=wa at *;have z0:wa.cell? ⟨gx,0,none⟩=some (.int .i64 op):=B0.cell 0;have z2:wa.cell? ⟨gx,2,none⟩=some (.slice K ks.length kc):=B0.cell 2;have z5:wa.cell? ⟨gx,5,none⟩=some (.int .i64 md):=B0.cell 5;have z6:wa.cell? ⟨gx,6,none⟩=some (.int .i64 nn):=B0.cell 6;have XR:=Ext.rfl' wa;by_cases h4:op=4
  ·subst h4;have hlt0:0<ks.length:=by have:=hone (.inl rfl);omega
   have hlt0I:(0:Int)<ks.length:=om;have hm2:(md == 2)=false:=by simp;omega
   obtain⟨b,o,hK,n,ht,k0,k1,k2,k3,k4,k5,k6,k7⟩:=kid8G HC.out HTL.out HK.out hlt0;have hK':=hK;subst hK';simp only[Nat.zero_mul,Nat.add_zero] at k0 k1 k2 k3 k4 k5 k6 k7;have hn0:nul (T.kids[0]'(HTL.out▸hlt0))=false:=by
    rcases HHO.out.num with h|h|h|⟨_,_,_,_,_,t,h1,h2⟩|h|h
    ·have:=h.1;rw[HHD.out] at this;simp at this
    ·have:=h.1;rw[HHD.out] at this;simp at this
    ·have:=h.1;rw[HHD.out] at this;simp at this
    ·simp only[h1,List.getElem_cons_zero];exact h2
    ·have:=h.1;rw[HHD.out] at this;simp at this
    ·have:=h.1;rw[HHD.out] at this;simp at this
   have HN:=lh (ynullable_G 3 S d wa _ _ ht);rw[hn0] at HN;clear hn0;unfold Nd.val at HN;clear ht
   go_upto_region 12 with(go_at_call 153;refine HN.out.mono ?_;rintro e w3 ⟨rfl,x3⟩;have z03:=x3.cell z0;have z23:=x3.cell z2;have HX3:=lh x3;clear x3)
   have x3:=HX3.out
   go_loopw [7] (fun v wr=>∃i:Nat,v=.int .i64 i/\i<=ks.length/\Hid (∀j (hj:j<T.kids.length),j<i->comp T.kids[j] xs=true)/\Ext w3 wr) (fun v _=>ks.length-(intOf v).toNat)
   case atStart=>exact⟨0,rfl,om,lh (fun j _ h=>om),Ext.rfl' _⟩
   case round=>
    obtain⟨i,rfl,hi,HJ,x1⟩:=hrel;have z2r:=x1.cell z23;by_cases hlt:i<ks.length
    ·have hiI:(i:Int)<ks.length:=om;obtain⟨b,o,hK,n,ht,k0,k1,k2,k3,k4,k5,k6,k7⟩:=kid8G (HC.out.ext (x3.trans x1)) HTL.out (fun i hi hj=>(HK.out i hi hj).ext (x3.trans x1)) hlt;injection hK with hK;injection hK with e1 e2 _
     subst e1;subst e2;have HT:=lh ht;clear ht
     go_wp2_with (go_at_call 77;refine(HIH.out wr _ _ HT.out (HG.out _ (List.getElem_mem _)) R rc xs ((HI.out.ext x3).ext x1) om).mono ?_;rintro e w3 ⟨rfl,x3⟩;obtain⟨b3,hb3⟩:∃b,b=comp (T.kids[i]'(HTL.out▸hlt)) xs:=⟨_,rfl⟩;rw[<-hb3];have HB3:=lh hb3.symm;clear hb3;cases b3)
     ·go_ret
      exact⟨by rw[comp_nf (by rw[HHD.out];simp;try omega) _ HB3.out];rfl,(E0.trans HX3.out).trans (x1.trans x3)⟩
     ·exact C1gz2
    ·have hiI:¬(i:Int)<ks.length:=om
     go_wp2_with fail
     go_ret
     exact⟨by rw[comp_nt (by rw[HHD.out];simp;try omega) (fun j hj=>HJ.out j hj (by have:=HTL.out;omega))];rfl,(E0.trans HX3.out).trans x1⟩
  ·by_cases h5:op=5
   ·subst h5;have HH:=lh (has_any R rc xs nn wa HI.out);obtain⟨hb,hhb⟩:∃hb,hb=decide (nn∈xs):=⟨_,rfl⟩
    rw[<-hhb] at HH;have HHB:=lh hhb;clear hhb
    go_upto_region 5 with(go_at_call 154;refine HH.out.mono ?_;rintro e w3 ⟨rfl,nq3,rfl⟩)
    have x3:=Ext.drewN wa nq3;have HI3:=lh (HI.out.ext x3);have z03:=x3.cell z0;have z23:=x3.cell z2;have z63:=x3.cell z6;have HX3:=lh x3;have HZ3:=lh (⟨x3.cell z0,x3.cell z2⟩:(wa.drewN nq3).cell? ⟨gx,0,none⟩=_/\(wa.drewN nq3).cell? ⟨gx,2,none⟩=_);generalize wa.drewN nq3=wb at *;cases hb
    ·have HNI:Hid (nn∉xs):=lh (by have:=HHB.out;simpa using this.symm)
     go_upto_region 8 with fail
     obtain⟨i0,hi0,hz0,hz1,hz2⟩:=info_parts infoInt;have k6:=kc0 z63;have HON:Hid (∀w':World,OwnS w' wb.heap.size 3 1 none 0 0 []):=lh (fun w'=>OwnS.nil _ _ _ _);refine Xr.start [] kr ?_;refine Xtk 0 ?_;refine Xtn ?_;refine Xtk 3 ?_;refine Xtn ?_;refine Xr.lazy 5 36 6 (fun g=>.slice (some ⟨g,0,none⟩) 1 1) 3 #[.int .i64 nn] rfl si dK si (fun w'=>by go_simp) ?_;refine Xcl 2 fun w4 hE4 hK4 K hKK=>?_;have x4:Ext wb w4:=hK4.nil;refine wp_app _ _ _ _ rfl wb.heap.size 3 i0 (.int .i64 0) 1 8 Tryz.underlying22 hi0 hz0 hz1 hz2 rfl om none 0 0 [] rfl (HON.out w4) _ xs.length rc (xs.map (Value.int .i64)) rfl si (HI3.out.ext x4).cells (ints_one _) um om x4.size ?_;intro A5 c5 w5 ho5 hg5 hat5;have x5:=Ext.app x4 (HON.out w4) hg5;simp only[Nat.zero_add,List.nil_append] at ho5 ⊢;have x45:Ext w4 w5:=(Ext.rfl' w4).grown hg5 si;refine hKK _ _ x45 ?_;clear hKK;refine ptm ?_;refine Xr.stepZ rfl dK (fun _=>by rfl) (fun w6 g6 hE6 hK6 hg6 hB6 hno K hKK=>?_);have ho6:=OwnS.ext ho5 hE6;refine wp_app _ _ _ _ rfl wb.heap.size 3 i0 (.int .i64 0) 1 8 Tryz.underlying22 hi0 hz0 hz1 hz2 rfl om A5 xs.length c5 (xs.map (Value.int .i64)) rfl ho6 _ 1 1 [.int .i64 nn] rfl rfl (blk_cells hB6) (ints_one [nn]) um om (by have:=hK6.size;omega) ?_;intro A9 c9 w9 ho9 hg9 hat9;have xb9:Ext wb w9:=Ext.app hK6.nil ho6 hg9;refine hKK _ _ (WI_grown hg9 (fun i hi=>.inr ⟨(w4.heap.size,w5.heap.size),by simp,by rcases hat5 with h|h<;>rw[h] at hi<;>simp at hi;omega,(OwnS.blt ho5 hi).1⟩)) (Kp.of_ext xb9) ?_;clear hKK;refine ptm ?_
     refine Xtk 7 ?_;refine Xdn fun w10 hE10 hK10=>?_;obtain⟨ys,HYS⟩:∃ys,Hid (ys=xs++[nn]):=⟨_,lh rfl⟩;have hyl:xs.length+1=ys.length:=by rw[HYS.out];simp
     have HI10:Hid (IL w10 A9 c9 ys):=lh (by
      have h:=OwnS.ext ho9 hE10;refine IL.of_own (base:=wb.heap.size) (e:=3) ?_ ?_
      ·unfold OwnI
       rw[<-hyl,HYS.out]
       simpa using h
      ·rw[HYS.out];intro x hx;rcases List.mem_append.1 hx with hx|hx
       ·exact HI.out.rng x hx
       ·rw[List.mem_singleton.1 hx];unfold I64;omega)
     have z0t:=(xb9.trans hE10).cell z03;have z2t:=(xb9.trans hE10).cell z23;have HX10:=lh (HX3.out.trans (xb9.trans hE10));have hyl2:ys.length+d<=1000:=om;rw[hyl];clear ho9 hg9 hat9 ho6 xb9 hK10 hE10 hK6 hB6 hno hE6 ho5 hg5 hat5 x5 x45 x4 hK4 hE4 hyl z03 z23 z63 HZ3
     go_upto_region 12 with fail
     have hyc:=HI10.out.len
     go_loopw [7] (fun v wr=>∃i:Nat,v=.int .i64 i/\i<=ks.length/\Hid (∀j (hj:j<T.kids.length),j<i->comp T.kids[j] ys=true)/\Ext w10 wr) (fun v _=>ks.length-(intOf v).toNat)
     case atStart=>exact⟨0,rfl,om,lh (fun j _ h=>om),Ext.rfl' _⟩
     case round=>
      obtain⟨i,rfl,hi,HJ,x1⟩:=hrel;have z2r:=x1.cell z2t;by_cases hlt:i<ks.length
      ·have hiI:(i:Int)<ks.length:=om;obtain⟨b,o,hK,n,ht,k0,k1,k2,k3,k4,k5,k6,k7⟩:=kid8G (HC.out.ext (HX10.out.trans x1)) HTL.out (fun i hi hj=>(HK.out i hi hj).ext (HX10.out.trans x1)) hlt;have hK':=hK;subst hK';have HT:=lh ht;clear ht
       go_wp2_with (go_at_call 77;refine(HIH.out wr _ _ HT.out (HG.out _ (List.getElem_mem _)) A9 c9 ys (HI10.out.ext x1) om).mono ?_;rintro e w3 ⟨rfl,x3⟩;obtain⟨b3,hb3⟩:∃b,b=comp (T.kids[i]'(HTL.out▸hlt)) ys:=⟨_,rfl⟩;rw[<-hb3];have HB3:=lh hb3.symm;clear hb3;cases b3)
       ·go_ret
        exact⟨by rw[comp_5f (by rw[HHD.out]) (by rw[HHD.out];exact HNI.out) (by rw[HHD.out];exact HYS.out) _ HB3.out];rfl,(E0.trans HX10.out).trans (x1.trans x3)⟩
       ·exact C1gz2
      ·have hiI:¬(i:Int)<ks.length:=om
       go_wp2_with fail
       go_ret
       exact⟨by rw[comp_5t (by rw[HHD.out]) (by rw[HHD.out];exact HNI.out) (by rw[HHD.out];exact HYS.out) (fun j hj=>HJ.out j hj (by have:=HTL.out;omega))];rfl,(E0.trans HX10.out).trans x1⟩
    ·go_wp2_with fail
     go_ret
     exact⟨by rw[comp_5x (by rw[HHD.out]) (by rw[HHD.out];have:=HHB.out;simpa using this.symm)];rfl,E0.trans HX3.out⟩
   ·by_cases h11:op=11
    ·subst h11;exact C1gz1
    ·have hf4:(op == 4)=false:=by simp[h4]
     have hf5:(op == 5)=false:=by simp[h5]
     have hle:¬5<op:=om;exact C1gz1
end

end Go.Proofs.YtmgpefenkilffaaGreat
