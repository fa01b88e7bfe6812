/- Texts of this proof: DI DR. -/
import Derived.Test.YtmocoldobnimfaaGreatRS22
set_option linter.all false
set_option maxRecDepth 100000
set_option maxHeartbeats 16000000
namespace Go.Proofs.YtmocoldobnimfaaGreat
section
open Go.RowKit
attribute [local go_sem ↓] Go.wp_at_zero Go.wp_at_succ
def smEq (a b:Sm):Bool:=decide (a.len=b.len)&&(decide (a.tg=b.tg)&&(decide (a.last=b.last)&&(decide (a.st=b.st)&&decide (a.en=b.en))))
theorem eqT3 {P:Prop}(h:P:=by
 iterate 2(refine Xtn ?_)
 refine Xdn fun wz hEz hKz=>?_
 go_wp2_with fail
 go_ret
 first|exact⟨rfl,hKz.nil⟩|exact⟨by rw[HL.out];rfl,hKz.nil⟩):P:=h
theorem eqT2 {P:Prop}(h:P:=by
 iterate 2(refine Xtn ?_)
 iterate 9(refine Xsn ?_)
 exact eqT3):P:=h
theorem eqT1 {P:Prop}(h:P:=by
 iterate 2(refine Xtn ?_)
 iterate 9(refine Xsn ?_)
 exact eqT2):P:=h
theorem eqT0 {P:Prop}(h:P:=by
 iterate 2(refine Xtn ?_)
 iterate 9(refine Xsn ?_)
 exact eqT1):P:=h
theorem kpc {w:World}{p:Addr}{v:Value}(h:w.cell? p=some v):∀w',Kp [] w w'->w'.cell? p=some v:=fun _ k=>k.cell h si
theorem equalS_any (w:World)(ga gb:Nat)(sa sb:Sm)(ha:SmAt w ga sa)(hb:SmAt w gb sb)(hm:sb.m=sa.m) :
 Calls Tryz.prog 33 #[.pointer (some ⟨ga,0,none⟩),.pointer (some ⟨gb,0,none⟩)] w (RetV (.bool (smEq sa sb)) w):=by
 obtain⟨j,hj,hjs⟩:=Option.map_eq_some_iff.1 sizeM;have H1:=fun(w':World) (x:Ext w w')=>lh (equalK_any _ _ _ _ _ _ w' (ha.tg.ext x) (hb.tg.ext x));have H2:=fun(w':World) (x:Ext w w')=>lh (equalK_any _ _ _ _ _ _ w' (ha.last.ext x) (hb.last.ext x));have H3:=fun(w':World) (x:Ext w w')=>lh (equalK_any _ _ _ _ _ _ w' (ha.st.ext x) (hb.st.ext x));have H4:=fun(w':World) (x:Ext w w')=>lh (equalK_any _ _ _ _ _ _ w' (ha.en.ext x) (hb.en.ext x));have a0:w.cell? ⟨ga,0,none⟩=some (.pointer (some ⟨sa.m,0,none⟩)):=ha.blk.cell 0;have b0:w.cell? ⟨gb,0,none⟩=some (.pointer (some ⟨sb.m,0,none⟩)):=hb.blk.cell 0;have a1:w.cell? ⟨ga,1,none⟩=some (.int .i64 sa.len):=ha.blk.cell 1;have b1:w.cell? ⟨gb,1,none⟩=some (.int .i64 sb.len):=hb.blk.cell 1;have a2:w.cell? ⟨ga,2,none⟩=some (.slice sa.tA sa.tg.length sa.tc):=ha.blk.cell 2;have b2:w.cell? ⟨gb,2,none⟩=some (.slice sb.tA sb.tg.length sb.tc):=hb.blk.cell 2;have a3:w.cell? ⟨ga,3,none⟩=some (.slice sa.lA sa.last.length sa.lc):=ha.blk.cell 3;have b3:w.cell? ⟨gb,3,none⟩=some (.slice sb.lA sb.last.length sb.lc):=hb.blk.cell 3;have a4:w.cell? ⟨ga,4,none⟩=some (.slice sa.sA sa.st.length sa.sc):=ha.blk.cell 4;have b4:w.cell? ⟨gb,4,none⟩=some (.slice sb.sA sb.st.length sb.sc):=hb.blk.cell 4;have a5:w.cell? ⟨ga,5,none⟩=some (.slice sa.eA sa.en.length sa.ec):=ha.blk.cell 5;have b5:w.cell? ⟨gb,5,none⟩=some (.slice sb.eA sb.en.length sb.ec):=hb.blk.cell 5;rw[hm] at b0;unfold smEq;generalize decide (sa.tg=sb.tg)=e1 at *;generalize decide (sa.last=sb.last)=e2 at *
 generalize decide (sa.st=sb.st)=e3 at *;generalize decide (sa.en=sb.en)=e4 at *;clear ha hb hm;obtain⟨m,len,tA,tc,tg,lA,lc,last,sA,sc,st,eA,ec,en⟩:=sa;obtain⟨m',len',tA',tc',tg',lA',lc',last',sA',sc',st',eA',ec',en'⟩:=sb
 simp only at *
 have HA0:=lh a0;have HA1:=lh a1;have HA2:=lh a2;have HA3:=lh a3;have HA4:=lh a4;have HA5:=lh a5;have HB0:=lh b0;have HB1:=lh b1;have HB2:=lh b2;have HB3:=lh b3;have HB4:=lh b4;have HB5:=lh b5;have HJ:=lh (fun(w':World)=>run_eql_ptr_same w' (a:=⟨m,0,none⟩) undM hj);clear hj hjs a0 a1 a2 a3 a4 a5 b0 b1 b2 b3 b4 b5;go_enter Tryz.func33,Tryz.ntmps33
 go_upto_region 1 with fail
 refine Xr.start [] kr ?_;have ja:=kpc HA0.out;have jb:=kpc HB0.out;have J:=HJ.out;refine Xtk 0 ?_
 iterate 22(refine Xtn ?_)
 clear ja jb J;have ja:=kpc HA1.out;have jb:=kpc HB1.out
 iterate 10(refine Xtn ?_)
 clear ja jb;by_cases hl:len=len'
 ·subst hl;rw[decide_eq_true rfl];have ja:=kpc HA2.out;have jb:=kpc HB2.out
  iterate 11(refine Xtn ?_)
  clear ja jb;refine Xcl 44 fun wa hE hK K hKK=>?_;go_simp;refine(H1 wa hK.nil).out.mono ?_;rintro e wb ⟨rfl,x⟩;refine hKK _ _ x ?_;clear hKK hE hK x;refine ptm ?_;cases e1
  ·exact eqT0
  ·iterate 2(refine Xtn ?_)
   have ja:=kpc HA3.out;have jb:=kpc HB3.out
   iterate 8(refine Xtn ?_)
   clear ja jb;refine Xcl 55 fun wa hE hK K hKK=>?_;go_simp;refine(H2 wa hK.nil).out.mono ?_;rintro e wb ⟨rfl,x⟩;refine hKK _ _ x ?_;clear hKK hE hK x;refine ptm ?_;cases e2
   ·exact eqT1
   ·iterate 2(refine Xtn ?_)
    have ja:=kpc HA4.out;have jb:=kpc HB4.out
    iterate 8(refine Xtn ?_)
    clear ja jb;refine Xcl 66 fun wa hE hK K hKK=>?_;go_simp;refine(H3 wa hK.nil).out.mono ?_;rintro e wb ⟨rfl,x⟩;refine hKK _ _ x ?_;clear hKK hE hK x;refine ptm ?_;cases e3
    ·exact eqT2
    ·iterate 2(refine Xtn ?_)
     have ja:=kpc HA5.out;have jb:=kpc HB5.out
     iterate 8(refine Xtn ?_)
     clear ja jb;refine Xcl 77 fun wa hE hK K hKK=>?_;go_simp;refine(H4 wa hK.nil).out.mono ?_;rintro e wb ⟨rfl,x⟩;refine hKK _ _ x ?_;clear hKK hE hK x;refine ptm ?_;cases e4
     ·exact eqT3
     ·exact eqT3
 ·have hne:((len:Int) == (len':Int))=false:=by rw[beq_eq_false_iff_ne];omega
  have HL:=lh (decide_eq_false hl);clear hl;refine Xtn ?_
  iterate 2(refine Xtn ?_)
  iterate 9(refine Xsn ?_)
  exact eqT0
end
section
open Go.RowKit
theorem smEq_of {m:Ma}{g:Nat}{cl:List Nat}{a b:Sm}(ha:SumOf m g cl a)(hb:SumOf m g cl b):smEq a b=true:=by
 unfold smEq;rw[ha.len,hb.len,ha.tg,hb.tg,ha.last,hb.last,ha.st,hb.st,ha.en,hb.en]
 simp
section
variable {m:Ma} {g:Nat} {cf:Int->Nat} {w w':World} {ps:List (Nat×List Int)}
end
end
end Go.Proofs.YtmocoldobnimfaaGreat
