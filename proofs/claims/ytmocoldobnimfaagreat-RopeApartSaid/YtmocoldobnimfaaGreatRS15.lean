/- Texts of this proof: Y3 C5 C1. -/
import Derived.Test.YtmocoldobnimfaaGreatRS12
import Derived.LaidEqlPtr
set_option linter.all false
set_option maxRecDepth 100000
set_option maxHeartbeats 16000000
namespace Go.Proofs.YtmocoldobnimfaaGreat
section
open Go.RowKit
attribute [local go_sem ↓] Go.wp_at_zero Go.wp_at_succ
theorem undM:Tryz.prog.underlying 43=some (.pointer 136):=by kernel_rfl
theorem sizeM:(Tryz.prog.info? 136).map (·.size)=some 6:=by kernel_rfl
theorem owns_any (w:World)(gm g:Nat)(s:Sm)(hs:SmAt w g s)(T1 T2:Nat)(C1 C2:Array Value)(hm:Blk w gm T1 C1)(hm2:Blk w s.m T2 C2) :
 Calls Tryz.prog 81 #[.pointer (some ⟨gm,0,none⟩),.pointer (some ⟨g,0,none⟩)] w (RetV (.bool (decide (s.m=gm))) w):=by
 have c0:w.cell? ⟨g,0,none⟩=some (.pointer (some ⟨s.m,0,none⟩)):=hs.blk.cell 0;obtain⟨j,hj,hjs⟩:=Option.map_eq_some_iff.1 sizeM;by_cases h:s.m=gm
 ·subst h;rw[decide_eq_true rfl];go_enter Tryz.func81,Tryz.ntmps81
  go_wp2_with fail
  rw[run_eql_ptr_same w _ undM hj]
  go_wp2_with fail
  go_ret
  exact⟨rfl,Ext.rfl' _⟩
 ·rw[decide_eq_false h];go_enter Tryz.func81,Tryz.ntmps81
  go_wp2_with fail
  rw[run_eql_ptr_other (a:=⟨s.m,0,none⟩) (b:=⟨gm,0,none⟩) w undM hj (by rw[hjs];decide) (fun e=>h (by injection e)) hm2 hm]
  go_wp2_with fail
  go_ret
  exact⟨rfl,Ext.rfl' _⟩
theorem C1z2 {P:Prop} (h:P:=by
 go_roundw
 case rel=>exact⟨i+1,by go_num,om,x1.trans x3⟩
 case measure=>simp[intOf];omega):P:=h
theorem C1z1 {P:Prop} (h:P:=by
 go_upto_region 12 with fail
 go_loopw [7] (fun v wr=>∃i:Nat,v=.int .i64 i/\i<=ks.length/\Ext wa wr) (fun v _=>ks.length-(intOf v).toNat)
 case atStart=>exact⟨0,rfl,om,Ext.rfl' _⟩
 case round=>
  obtain⟨i,rfl,hi,x1⟩:=hrel;have z2r:=x1.cell z2;by_cases hlt:i<ks.length
  ·have hiI:(i:Int)<ks.length:=om;obtain⟨b,o,hK,n,ht,k0,k1,k2,k3,k4,k5,k6,k7⟩:=kid8 (HC.out.ext (XR.trans x1)) (fun u hu=>(HK.out u hu).ext (XR.trans x1)) hlt;have hK':=hK;subst hK';have HT:=lh ht;clear ht
   go_wp2_with (go_at_call 62;refine(HIH.out wr _ HT.out R rc xs (HI.out.ext x1) om).mono ?_;rintro e w3 ⟨b3,rfl,x3⟩;cases b3)
   ·go_ret
    exact⟨_,rfl,E0.trans (x1.trans x3)⟩
   ·exact C1z2
  ·have hiI:¬(i:Int)<ks.length:=om
   go_wp2_with fail
   go_ret
   exact⟨_,rfl,E0.trans x1⟩):P:=h
theorem xcompiles_any (bd:Nat)(S:Nat->Prop):∀(d:Nat) (w:World) (v:Value),TreeAt bd S w d v->∀(R:Option Addr) (rc:Nat) (xs:List Int),IL w R rc xs->xs.length+d<=1000->Calls Tryz.prog 62 #[v,.slice R xs.length rc] w (RetB w):=by
 intro d;induction d with
 | zero=>intro w v h;obtain⟨e,he⟩:=h.pos;omega
 | succ d ih=>
  intro w v h R rc xs hI hlen;obtain⟨n,rfl,hok,hsl,hkl,hkc,hcl,hks⟩:=h.node;obtain⟨op,A,c,l,K,kc,ks,mn,mx,md,nn,neg⟩:=n;have hop:=hok.op;have hone:=hok.one;have hmd:=hok.md;have hn:=hok.n
  simp only at hop hone hmd hn hsl hkl hkc hcl hks
  unfold Nd.val
  simp only
  have HIH:=lh ih;clear ih h hok;have hrl:=hI.len;have B0:=Blk.new w 26 #[.int .i64 op,.slice A l.length c,.slice K ks.length kc,.int .i64 mn,.int .i64 mx,.int .i64 md,.int .i64 nn,.bool neg];have E0:=Ext.alloc w (.cells #[.int .i64 op,.slice A l.length c,.slice K ks.length kc,.int .i64 mn,.int .i64 mx,.int .i64 md,.int .i64 nn,.bool neg] 26);have HC:=lh (hcl.ext E0);have HK:=lh (fun u hu=>(hks u hu).ext E0);have HKL:ks.length<=kc/\kc<=9223372036854775807:=⟨hkl,by unfold maxLen at hkc;omega⟩;have HI:=lh (hI.ext E0);clear hcl hks hsl hkl hkc hI;go_enter Tryz.func62,Tryz.ntmps62
  go_upto_region 1 with fail
  obtain⟨gx,hgx⟩:∃gx,gx=w.heap.size:=⟨_,rfl⟩
  rw[<-hgx] at B0 ⊢;clear hgx;generalize w.alloc (.cells #[.int .i64 op,.slice A l.length c,.slice K ks.length kc,.int .i64 mn,.int .i64 mx,.int .i64 md,.int .i64 nn,.bool neg] 26)=wa at *;have z0:wa.cell? ⟨gx,0,none⟩=some (.int .i64 op):=B0.cell 0;have z2:wa.cell? ⟨gx,2,none⟩=some (.slice K ks.length kc):=B0.cell 2;have z5:wa.cell? ⟨gx,5,none⟩=some (.int .i64 md):=B0.cell 5;have z6:wa.cell? ⟨gx,6,none⟩=some (.int .i64 nn):=B0.cell 6;have XR:=Ext.rfl' wa;by_cases h4:op=4
  ·subst h4;have hlt0:0<ks.length:=by have:=hone (.inl rfl);omega
   have hlt0I:(0:Int)<ks.length:=om;have hm2:(md == 2)=false:=by simp;omega
   obtain⟨b,o,hK,n,ht,k0,k1,k2,k3,k4,k5,k6,k7⟩:=kid8 HC.out HK.out hlt0;have hK':=hK;subst hK';simp only[Nat.zero_mul,Nat.add_zero] at k0 k1 k2 k3 k4 k5 k6 k7;have HN:=lh (ynullable_any bd S d wa _ ht);unfold Nd.val at HN;clear ht
   go_upto_region 12 with(go_at_call 107;refine HN.out.mono ?_;rintro e w3 ⟨b3,rfl,x3⟩;have z03:=x3.cell z0;have z23:=x3.cell z2;have HX3:=lh x3;cases b3)
   ·have x3:=HX3.out
    go_loopw [7] (fun v wr=>∃i:Nat,v=.int .i64 i/\i<=ks.length/\Ext w3 wr) (fun v _=>ks.length-(intOf v).toNat)
    case atStart=>exact⟨0,rfl,om,Ext.rfl' _⟩
    case round=>
     obtain⟨i,rfl,hi,x1⟩:=hrel;have z2r:=x1.cell z23;by_cases hlt:i<ks.length
     ·have hiI:(i:Int)<ks.length:=om;obtain⟨b,o,hK,n,ht,k0,k1,k2,k3,k4,k5,k6,k7⟩:=kid8 (HC.out.ext (x3.trans x1)) (fun u hu=>(HK.out u hu).ext (x3.trans x1)) hlt;injection hK with hK;injection hK with e1 e2 _
      subst e1;subst e2;have HT:=lh ht;clear ht
      go_wp2_with (go_at_call 62;refine(HIH.out wr _ HT.out R rc xs ((HI.out.ext x3).ext x1) om).mono ?_;rintro e w3 ⟨b3,rfl,x3⟩;cases b3)
      ·go_ret
       exact⟨_,rfl,(E0.trans HX3.out).trans (x1.trans x3)⟩
      ·exact C1z2
     ·have hiI:¬(i:Int)<ks.length:=om
      go_wp2_with fail
      go_ret
      exact⟨_,rfl,(E0.trans HX3.out).trans x1⟩
   ·go_ret
    exact⟨_,rfl,E0.trans HX3.out⟩
  ·by_cases h5:op=5
   ·subst h5;have HH:=lh (has_any R rc xs nn wa HI.out);generalize decide (nn∈xs)=hb at HH
    go_upto_region 5 with(go_at_call 108;refine HH.out.mono ?_;rintro e w3 ⟨rfl,nq3,rfl⟩)
    have x3:=Ext.drewN wa nq3;have HI3:=lh (HI.out.ext x3);have z03:=x3.cell z0;have z23:=x3.cell z2;have z63:=x3.cell z6;have HX3:=lh x3;have HZ3:=lh (⟨x3.cell z0,x3.cell z2⟩:(wa.drewN nq3).cell? ⟨gx,0,none⟩=_/\(wa.drewN nq3).cell? ⟨gx,2,none⟩=_);generalize wa.drewN nq3=wb at *;cases hb
    ·go_upto_region 8 with fail
     obtain⟨i0,hi0,hz0,hz1,hz2⟩:=info_parts infoInt;have k6:=kc0 z63;have HON:Hid (∀w':World,OwnS w' wb.heap.size 3 1 none 0 0 []):=lh (fun w'=>OwnS.nil _ _ _ _);refine Xr.start [] kr ?_;refine Xtk 0 ?_;refine Xtn ?_;refine Xtk 3 ?_;refine Xtn ?_;refine Xr.lazy 5 36 6 (fun g=>.slice (some ⟨g,0,none⟩) 1 1) 3 #[.int .i64 nn] rfl si dK si (fun w'=>by go_simp) ?_;refine Xcl 2 fun w4 hE4 hK4 K hKK=>?_;have x4:Ext wb w4:=hK4.nil;refine wp_app _ _ _ _ rfl wb.heap.size 3 i0 (.int .i64 0) 1 8 Tryz.underlying22 hi0 hz0 hz1 hz2 rfl om none 0 0 [] rfl (HON.out w4) _ xs.length rc (xs.map (Value.int .i64)) rfl si (HI3.out.ext x4).cells (ints_one _) um om x4.size ?_;intro A5 c5 w5 ho5 hg5 hat5;have x5:=Ext.app x4 (HON.out w4) hg5;simp only[Nat.zero_add,List.nil_append] at ho5 ⊢;have x45:Ext w4 w5:=(Ext.rfl' w4).grown hg5 si;refine hKK _ _ x45 ?_;clear hKK;refine ptm ?_;refine Xr.stepZ rfl dK (fun _=>by rfl) (fun w6 g6 hE6 hK6 hg6 hB6 hno K hKK=>?_);have ho6:=OwnS.ext ho5 hE6;refine wp_app _ _ _ _ rfl wb.heap.size 3 i0 (.int .i64 0) 1 8 Tryz.underlying22 hi0 hz0 hz1 hz2 rfl om A5 xs.length c5 (xs.map (Value.int .i64)) rfl ho6 _ 1 1 [.int .i64 nn] rfl rfl (blk_cells hB6) (ints_one [nn]) um om (by have:=hK6.size;omega) ?_;intro A9 c9 w9 ho9 hg9 hat9;have xb9:Ext wb w9:=Ext.app hK6.nil ho6 hg9;refine hKK _ _ (WI_grown hg9 (fun i hi=>.inr ⟨(w4.heap.size,w5.heap.size),by simp,by rcases hat5 with h|h<;>rw[h] at hi<;>simp at hi;omega,(OwnS.blt ho5 hi).1⟩)) (Kp.of_ext xb9) ?_;clear hKK;refine ptm ?_
     refine Xtk 7 ?_;refine Xdn fun w10 hE10 hK10=>?_;obtain⟨ys,HYS⟩:∃ys,Hid (ys=xs++[nn]):=⟨_,lh rfl⟩;have hyl:xs.length+1=ys.length:=by rw[HYS.out];simp
     have HI10:Hid (IL w10 A9 c9 ys):=lh (by
      have h:=OwnS.ext ho9 hE10;refine IL.of_own (base:=wb.heap.size) (e:=3) ?_ ?_
      ·unfold OwnI
       rw[<-hyl,HYS.out]
       simpa using h
      ·rw[HYS.out];intro x hx;rcases List.mem_append.1 hx with hx|hx
       ·exact HI.out.rng x hx
       ·rw[List.mem_singleton.1 hx];unfold I64;omega)
     have z0t:=(xb9.trans hE10).cell z03;have z2t:=(xb9.trans hE10).cell z23;have HX10:=lh (HX3.out.trans (xb9.trans hE10));have hyl2:ys.length+d<=1000:=om;rw[hyl];clear ho9 hg9 hat9 ho6 xb9 hK10 hE10 hK6 hB6 hno hE6 ho5 hg5 hat5 x5 x45 x4 hK4 hE4 hyl z03 z23 z63 HZ3
     go_upto_region 12 with fail
     have hyc:=HI10.out.len
     go_loopw [7] (fun v wr=>∃i:Nat,v=.int .i64 i/\i<=ks.length/\Ext w10 wr) (fun v _=>ks.length-(intOf v).toNat)
     case atStart=>exact⟨0,rfl,om,Ext.rfl' _⟩
     case round=>
      obtain⟨i,rfl,hi,x1⟩:=hrel;have z2r:=x1.cell z2t;by_cases hlt:i<ks.length
      ·have hiI:(i:Int)<ks.length:=om;obtain⟨b,o,hK,n,ht,k0,k1,k2,k3,k4,k5,k6,k7⟩:=kid8 (HC.out.ext (HX10.out.trans x1)) (fun u hu=>(HK.out u hu).ext (HX10.out.trans x1)) hlt;have hK':=hK;subst hK';have HT:=lh ht;clear ht
       go_wp2_with (go_at_call 62;refine(HIH.out wr _ HT.out A9 c9 ys (HI10.out.ext x1) om).mono ?_;rintro e w3 ⟨b3,rfl,x3⟩;cases b3)
       ·go_ret
        exact⟨_,rfl,(E0.trans HX10.out).trans (x1.trans x3)⟩
       ·exact C1z2
      ·have hiI:¬(i:Int)<ks.length:=om
       go_wp2_with fail
       go_ret
       exact⟨_,rfl,(E0.trans HX10.out).trans x1⟩
    ·go_wp2_with fail
     go_ret
     exact⟨_,rfl,E0.trans HX3.out⟩
   ·by_cases h11:op=11
    ·subst h11;exact C1z1
    ·have hf4:(op == 4)=false:=by simp[h4]
     have hf5:(op == 5)=false:=by simp[h5]
     have hle:¬5<op:=om;exact C1z1
end
end Go.Proofs.YtmocoldobnimfaaGreat
