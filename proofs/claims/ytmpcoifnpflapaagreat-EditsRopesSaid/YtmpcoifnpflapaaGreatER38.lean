/- Texts of this proof: Y28 DI DR. -/
import Derived.Test.YtmpcoifnpflapaaGreatER36
set_option linter.all false
set_option maxRecDepth 100000
set_option maxHeartbeats 16000000
namespace Go.Proofs.YtmpcoifnpflapaaGreat
section
open Go.RowKit
attribute [local go_sem ↓] Go.wp_at_zero Go.wp_at_succ
theorem eqI_all {a b:List Int}(hl:a.length=b.length)(h:∀j (h1:j<a.length) (h2:j<b.length),a[j]=b[j]):decide (a=b)=true:=decide_eq_true (List.ext_getElem hl h)
theorem neI_one {a b:List Int}{j:Nat}(h1:j<a.length)(h2:j<b.length)(h:a[j]≠b[j]):decide (a=b)=false:=decide_eq_false (fun e=>by subst e;exact h rfl)
theorem neI_len {a b:List Int}(h:a.length≠b.length):decide (a=b)=false:=decide_eq_false (fun e=>h (congrArg _ e))
theorem equalK_any (A B:Option Addr)(c d:Nat)(a b:List Int)(w:World)(ha:KL w A c a)(hb:KL w B d b):Calls Tryz.prog 94 #[.slice A a.length c,.slice B b.length d] w (RetV (.bool (decide (a=b))) w):=by
 have hla:=ha.len;have hlb:=hb.len;by_cases hl:a.length=b.length
 ·have HT:=fun h=>lh (eqI_all hl h);have HF:=fun j h1 h2 h=>lh (neI_one (a:=a) (b:=b) (j:=j) h1 h2 h);generalize decide (a=b)=r at *;have hne:((a.length:Int) != (b.length:Int))=false:=by simp[hl]
  have HL:=lh hl;clear hl;go_enter Tryz.func94,Tryz.ntmps94
  go_upto_region 4 with fail
  go_loopw [13] (fun v wr=>∃i:Nat,v=.int .i64 i/\i<=a.length/\Hid (∀j (h1:j<a.length) (h2:j<b.length),j<i->a[j]=b[j])/\Ext w wr) (fun v _=>a.length-(intOf v).toNat)
  case atStart=>exact⟨0,rfl,om,fun j _ _ hj=>absurd hj (Nat.not_lt_zero _),Ext.rfl' _⟩
  case round=>
   obtain⟨i,rfl,hi,HI,x1⟩:=hrel;by_cases hlt:i<a.length
   ·have hlt2:i<b.length:=by have:=HL.out;omega
    obtain⟨b1,o1,rfl,g1⟩:=(ha.ext x1).get hlt;obtain⟨b2,o2,rfl,g2⟩:=(hb.ext x1).get hlt2;have hI:(i:Int)<a.length:=om;have hI2:(i:Int)<b.length:=om;have HI2:=lh (show a[i]=b[i]->∀j (h1:j<a.length) (h2:j<b.length),j<i+1->a[j]=b[j] from fun hn j h1 h2 hji=>by
     rcases Nat.lt_or_ge j i with h3|h3
     ·exact HI.out j h1 h2 h3
     ·have:j=i:=om;subst this;exact hn)
    have HF2:=HF i hlt hlt2;generalize a[i]=s at *;generalize b[i]=t at *;have k1:=kc0 g1;have k2:=kc0 g2;by_cases he:s=t
    ·subst he;have HI3:=lh (HI2.out rfl);clear HI2 HF2 HI HT HF
     go_upto_region 6 with fail
     refine Xr.start [] kr ?_;refine Xtk 0 ?_
     iterate 8(refine Xtn ?_)
     refine Xdn fun w2 hE2 hK2=>?_;have x3:=x1.trans hK2.nil;clear k1 k2 hE2 hK2 g1 g2
     go_wp2_with fail
     go_roundw
     case rel=>exact⟨i+1,by go_num,om,HI3,x3⟩
     case measure=>simp[intOf];omega
    ·have HR:=HF2 he;have hbe:(s == t)=false:=by rw[beq_eq_false_iff_ne];exact he
     clear HI2 HF2 HI HT HF he
     go_upto_region 6 with fail
     refine Xr.start [] kr ?_;refine Xtk 0 ?_
     iterate 8(refine Xtn ?_)
     refine Xdn fun w2 hE2 hK2=>?_;have x3:=x1.trans hK2.nil;clear k1 k2 hE2 hK2 g1 g2
     go_wp2_with fail
     go_ret
     exact⟨by rw[HR.out];rfl,x3⟩
   ·have hI:¬(i:Int)<a.length:=om;have HR:=HT (fun j h1 h2=>HI.out j h1 h2 om);clear HT HF HI
    go_wp2_with fail
    go_ret
    exact⟨by rw[HR.out];rfl,x1⟩
 ·have HR:=lh (neI_len hl);generalize decide (a=b)=r at *;have hne:((a.length:Int) != (b.length:Int))=true:=by simp;omega
  clear hl;go_enter Tryz.func94,Tryz.ntmps94
  go_wp2_with fail
  go_ret
  exact⟨by rw[HR.out];rfl,Ext.rfl' _⟩
def smEq (a b:Sm):Bool:=decide (a.len=b.len)&&(decide (a.tg=b.tg)&&(decide (a.last=b.last)&&(decide (a.st=b.st)&&decide (a.en=b.en))))
theorem eqT3 {P:Prop}(h:P:=by
 iterate 2(refine Xtn ?_)
 refine Xdn fun wz hEz hKz=>?_
 go_wp2_with fail
 go_ret
 first|exact⟨rfl,hKz.nil⟩|exact⟨by rw[HL.out];rfl,hKz.nil⟩):P:=h
theorem eqT2 {P:Prop}(h:P:=by
 iterate 2(refine Xtn ?_)
 iterate 9(refine Xsn ?_)
 exact eqT3):P:=h
theorem eqT1 {P:Prop}(h:P:=by
 iterate 2(refine Xtn ?_)
 iterate 9(refine Xsn ?_)
 exact eqT2):P:=h
theorem eqT0 {P:Prop}(h:P:=by
 iterate 2(refine Xtn ?_)
 iterate 9(refine Xsn ?_)
 exact eqT1):P:=h
theorem kpc {w:World}{p:Addr}{v:Value}(h:w.cell? p=some v):∀w',Kp [] w w'->w'.cell? p=some v:=fun _ k=>k.cell h si
theorem equalS_any (w:World)(ga gb:Nat)(sa sb:Sm)(ha:SmAt w ga sa)(hb:SmAt w gb sb)(hm:sb.m=sa.m) :
 Calls Tryz.prog 24 #[.pointer (some ⟨ga,0,none⟩),.pointer (some ⟨gb,0,none⟩)] w (RetV (.bool (smEq sa sb)) w):=by
 obtain⟨j,hj,hjs⟩:=Option.map_eq_some_iff.1 sizeM;have H1:=fun(w':World) (x:Ext w w')=>lh (equalK_any _ _ _ _ _ _ w' (ha.tg.ext x) (hb.tg.ext x));have H2:=fun(w':World) (x:Ext w w')=>lh (equalK_any _ _ _ _ _ _ w' (ha.last.ext x) (hb.last.ext x));have H3:=fun(w':World) (x:Ext w w')=>lh (equalK_any _ _ _ _ _ _ w' (ha.st.ext x) (hb.st.ext x));have H4:=fun(w':World) (x:Ext w w')=>lh (equalK_any _ _ _ _ _ _ w' (ha.en.ext x) (hb.en.ext x));have a0:w.cell? ⟨ga,0,none⟩=some (.pointer (some ⟨sa.m,0,none⟩)):=ha.blk.cell 0;have b0:w.cell? ⟨gb,0,none⟩=some (.pointer (some ⟨sb.m,0,none⟩)):=hb.blk.cell 0;have a1:w.cell? ⟨ga,1,none⟩=some (.int .i64 sa.len):=ha.blk.cell 1;have b1:w.cell? ⟨gb,1,none⟩=some (.int .i64 sb.len):=hb.blk.cell 1;have a2:w.cell? ⟨ga,2,none⟩=some (.slice sa.tA sa.tg.length sa.tc):=ha.blk.cell 2;have b2:w.cell? ⟨gb,2,none⟩=some (.slice sb.tA sb.tg.length sb.tc):=hb.blk.cell 2;have a3:w.cell? ⟨ga,3,none⟩=some (.slice sa.lA sa.last.length sa.lc):=ha.blk.cell 3;have b3:w.cell? ⟨gb,3,none⟩=some (.slice sb.lA sb.last.length sb.lc):=hb.blk.cell 3;have a4:w.cell? ⟨ga,4,none⟩=some (.slice sa.sA sa.st.length sa.sc):=ha.blk.cell 4;have b4:w.cell? ⟨gb,4,none⟩=some (.slice sb.sA sb.st.length sb.sc):=hb.blk.cell 4;have a5:w.cell? ⟨ga,5,none⟩=some (.slice sa.eA sa.en.length sa.ec):=ha.blk.cell 5;have b5:w.cell? ⟨gb,5,none⟩=some (.slice sb.eA sb.en.length sb.ec):=hb.blk.cell 5;rw[hm] at b0;unfold smEq;generalize decide (sa.tg=sb.tg)=e1 at *;generalize decide (sa.last=sb.last)=e2 at *
 generalize decide (sa.st=sb.st)=e3 at *;generalize decide (sa.en=sb.en)=e4 at *;clear ha hb hm;obtain⟨m,len,tA,tc,tg,lA,lc,last,sA,sc,st,eA,ec,en⟩:=sa;obtain⟨m',len',tA',tc',tg',lA',lc',last',sA',sc',st',eA',ec',en'⟩:=sb
 simp only at *
 have HA0:=lh a0;have HA1:=lh a1;have HA2:=lh a2;have HA3:=lh a3;have HA4:=lh a4;have HA5:=lh a5;have HB0:=lh b0;have HB1:=lh b1;have HB2:=lh b2;have HB3:=lh b3;have HB4:=lh b4;have HB5:=lh b5;have HJ:=lh (fun(w':World)=>run_eql_ptr_same w' (a:=⟨m,0,none⟩) undM hj);clear hj hjs a0 a1 a2 a3 a4 a5 b0 b1 b2 b3 b4 b5;go_enter Tryz.func24,Tryz.ntmps24
 go_upto_region 1 with fail
 refine Xr.start [] kr ?_;have ja:=kpc HA0.out;have jb:=kpc HB0.out;have J:=HJ.out;refine Xtk 0 ?_
 iterate 22(refine Xtn ?_)
 clear ja jb J;have ja:=kpc HA1.out;have jb:=kpc HB1.out
 iterate 10(refine Xtn ?_)
 clear ja jb;by_cases hl:len=len'
 ·subst hl;rw[decide_eq_true rfl];have ja:=kpc HA2.out;have jb:=kpc HB2.out
  iterate 11(refine Xtn ?_)
  clear ja jb;refine Xcl 44 fun wa hE hK K hKK=>?_;go_simp;refine(H1 wa hK.nil).out.mono ?_;rintro e wb ⟨rfl,x⟩;refine hKK _ _ x ?_;clear hKK hE hK x;refine ptm ?_;cases e1
  ·exact eqT0
  ·iterate 2(refine Xtn ?_)
   have ja:=kpc HA3.out;have jb:=kpc HB3.out
   iterate 8(refine Xtn ?_)
   clear ja jb;refine Xcl 55 fun wa hE hK K hKK=>?_;go_simp;refine(H2 wa hK.nil).out.mono ?_;rintro e wb ⟨rfl,x⟩;refine hKK _ _ x ?_;clear hKK hE hK x;refine ptm ?_;cases e2
   ·exact eqT1
   ·iterate 2(refine Xtn ?_)
    have ja:=kpc HA4.out;have jb:=kpc HB4.out
    iterate 8(refine Xtn ?_)
    clear ja jb;refine Xcl 66 fun wa hE hK K hKK=>?_;go_simp;refine(H3 wa hK.nil).out.mono ?_;rintro e wb ⟨rfl,x⟩;refine hKK _ _ x ?_;clear hKK hE hK x;refine ptm ?_;cases e3
    ·exact eqT2
    ·iterate 2(refine Xtn ?_)
     have ja:=kpc HA5.out;have jb:=kpc HB5.out
     iterate 8(refine Xtn ?_)
     clear ja jb;refine Xcl 77 fun wa hE hK K hKK=>?_;go_simp;refine(H4 wa hK.nil).out.mono ?_;rintro e wb ⟨rfl,x⟩;refine hKK _ _ x ?_;clear hKK hE hK x;refine ptm ?_;cases e4
     ·exact eqT3
     ·exact eqT3
 ·have hne:((len:Int) == (len':Int))=false:=by rw[beq_eq_false_iff_ne];omega
  have HL:=lh (decide_eq_false hl);clear hl;refine Xtn ?_
  iterate 2(refine Xtn ?_)
  iterate 9(refine Xsn ?_)
  exact eqT0
end
section
open Go.RowKit
theorem smEq_of {m:Ma}{g:Nat}{cl:List Nat}{a b:Sm}(ha:SumOf m g cl a)(hb:SumOf m g cl b):smEq a b=true:=by
 unfold smEq;rw[ha.len,hb.len,ha.tg,hb.tg,ha.last,hb.last,ha.st,hb.st,ha.en,hb.en]
 simp
section
variable {m:Ma} {g:Nat} {cf:Int->Nat} {w w':World} {ps:List (Nat×List Int)}
end
end
end Go.Proofs.YtmpcoifnpflapaaGreat
