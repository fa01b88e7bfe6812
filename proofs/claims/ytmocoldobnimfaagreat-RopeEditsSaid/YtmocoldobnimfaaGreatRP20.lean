/- Texts of this proof: E16 E19 K2 K3 K14. -/
import Derived.Test.YtmocoldobnimfaaGreatRP16
import Derived.Test.YtmocoldobnimfaaGreatRP17
import Derived.Test.YtmocoldobnimfaaGreatRP18
set_option linter.all false
set_option maxRecDepth 100000
set_option maxHeartbeats 2000000
namespace Go.Proofs.YtmocoldobnimfaaGreat
section
open Go.RowKit
end
section
open Go.RowKit
theorem take_one (t:List Int)(k:Nat)(h:k<t.length):t.take (k+1)=t.take k++[t[k]]:=List.take_succ_eq_append_getElem h
theorem drop_take_one (t:List Int)(m k:Nat)(hm:m≤k)(h:k<t.length):(t.drop m).take (k+1-m)=(t.drop m).take (k-m)++[t[k]]:=by
 have e:k+1-m=(k-m)+1:=om;rw[e,List.take_succ_eq_append_getElem (by simp;omega)]
 congr 2
 rw[List.getElem_drop]
 congr 1;omega
theorem rSplice_any (T:Option Addr)(tc:Nat)(t:List Int)(a d:Int)(A:Option Addr)(c:Nat)(l:List Int)(w:World)(ht:IL w T tc t)(hl:IL w A c l)
 (hlen:t.length≤1000000000) (hlen2:l.length≤1000000000) (h1:0≤a) (h2:0≤d) (h3:a+d≤t.length) :
 Calls Tryz.prog 56 #[.slice T t.length tc,.agg #[.int .i64 a,.int .i64 d,.slice A l.length c]] w (RetIL (spliceL t a d l) w):=by
 obtain⟨i0,hi0,hz0,hz1,hz2⟩:=info_parts infoInt;obtain⟨an,rfl⟩:∃n:Nat,a=n:=⟨a.toNat,om⟩;obtain⟨dn,rfl⟩:∃n:Nat,d=n:=⟨d.toNat,om⟩;obtain⟨m,hm⟩:∃m:Nat,(an:Int)+(dn:Int)=(m:Int):=⟨an+dn,om⟩;have HSL:=lh (show spliceL t an dn l=(t.take an++l)++(t.drop m).take (t.length-m) by
  have e:(t.drop m).take (t.length-m)=t.drop m:=List.take_of_length_le si;rw[e];simp[spliceL,hm])
 obtain⟨a1,a2⟩:=ht.len;obtain⟨B0,X0⟩:=alloc1 w 102 #[.int .i64 an,.int .i64 dn,.slice A l.length c];have hrt:=ht.rng;have hrl:=hl.rng;have hm1:an≤m:=om;have hm2:m≤t.length:=om;go_enter Tryz.func56,Tryz.ntmps56
 go_wp2
 generalize hW:w.alloc (.cells #[.int .i64 an,.int .i64 dn,.slice A l.length c] 102)=W at *;have hg0:w.heap.size<W.heap.size:=by rw[←hW];simp
 clear hW;replace ht:=ht.ext X0;replace hl:=hl.ext X0;generalize hg:w.heap.size=g at *
 go_loopw [5,6] (fun v i wr=>∃(k:Nat) (A':Option Addr) (c':Nat) (xs:List Int),k≤an∧i=.int .i64 k∧Hid (xs=t.take k)∧v=.slice A' xs.length c'∧OwnI wr W.heap.size 3 A' c' xs∧Ext W wr) (fun _ i _=>an-(intOf i).toNat)
 case atStart=>exact⟨0,none,0,[],Nat.zero_le _,rfl,rfl,rfl,OwnS.nil _ _ _ _,Ext.rfl' _⟩
 case round=>
  obtain⟨k,A',c',xs,hk,rfl,hxs,rfl,hown,hext⟩:=hrel;obtain⟨p0,p1,p2,_,_,_,pz⟩:=(B0.ext hext).c3;have hxl:xs.length≤1000000000:=by rw[hxs.out];simp;omega
  by_cases hlt:k<an
  ·obtain⟨pb,po,rfl,g1⟩:=(ht.ext hext).get (show k<t.length by omega);have hb1:=World.block_lt_of_cell? _ _ g1;have hlt2:(k:Int)<an:=om;have hlt3:k<t.length:=om;have hlt4:(k:Int)<t.length:=om;have HS:=lh (show t.take (k+1)=xs++[t[k]] by rw[hxs.out];exact take_one t k hlt3);clear hxs;generalize t[k]=x at *;obtain⟨ys,hys⟩:∃ys,ys=t.take (k+1):=⟨_,rfl⟩;have HY:=lh hys;have HY2:=lh (hys.trans HS.out);clear hys HS
   go_wp2_with ((at_builtin;refine wpList_app1I (w1:=wr) rfl _ _ _ rfl 3 infoInt Tryz.underlying22 W hext x rfl A' c' xs rfl hown rfl om ys HY2.out ?_;intro A2 c2 w2 hown2 hext2 _ _))
   go_roundw
   case rel=>exact⟨k+1,A2,c2,ys,om,by go_num,HY,rfl,hown2,hext2⟩
   case measure=>simp[intOf];omega
  ·have hk':k=an:=om;subst hk';have H63:=lh (show xs.length+l.length≤maxLen by unfold maxLen;omega);have H8:=lh (show(xs.length+l.length)*8≤140737488355328 by omega);have HCL:=lh (hl.ext hext).cells;have H1:=lh (ints_one l);have HSZ:=lh hext.size;have HO:=lh hown;have hzz:g<wr.heap.size:=pz;unfold OwnI at HO;clear hown
   go_wp2_with ((at_builtin;refine wpList_app _ rfl _ _ _ rfl W.heap.size 3 i0 (.int .i64 0) 1 8 Tryz.underlying22 hi0 hz0 hz1 hz2 rfl om _ xs.length c' (xs.map (Value.int .i64)) rfl HO.out _ l.length c (l.map (Value.int .i64)) rfl si HCL.out H1.out H63.out H8.out HSZ.out ?_;intro A2 c2 w2 hown2 hg2 _;have hext2:=hext.app HO.out hg2;have B2:=B0.ext hext2;obtain⟨q0,q1,q2,_,_,_,qz⟩:=B2.c3))
   obtain⟨zs,hzs⟩:∃zs,zs=xs++l:=⟨_,rfl⟩;have hzl:zs.length=xs.length+l.length:=by rw[hzs];simp
   have hzl2:zs.length≤2000000000:=om;have HZ:=lh (show zs=t.take k++l by rw[hzs,hxs.out]);replace hown2:OwnI w2 W.heap.size 3 A2 c2 zs:=by unfold OwnI;rw[hzl,hzs,List.map_append];exact hown2
   have HZL:=lh hzl.symm;rw[HZL.out];clear hzs hzl H63 H8 HCL H1 HSZ HO hg2 p0 p1 p2 hext hxs hzz HZL
   go_loopw [5,7] (fun v i wr=>∃(j:Nat) (A':Option Addr) (c':Nat) (xs:List Int),m≤j∧j≤t.length∧i=.int .i64 j∧Hid (xs=zs++(t.drop m).take (j-m))∧v=.slice A' xs.length c'∧OwnI wr W.heap.size 3 A' c' xs∧Ext W wr) (fun _ i _=>t.length-(intOf i).toNat)
   case atStart=>exact⟨m,A2,c2,zs,Nat.le_refl _,hm2,by(first|rw[hm]|rfl),lh si,rfl,hown2,hext2⟩
   case round=>
    clear hown2 hext2;obtain⟨j,A',c',ys,hj1,hj2,rfl,hys,rfl,hown,hext⟩:=hrel;have hyl:ys.length≤4000000000:=by rw[hys.out];simp;omega
    by_cases hlt':j<t.length
    ·obtain⟨pb,po,rfl,g1⟩:=(ht.ext hext).get hlt';have hb1:=World.block_lt_of_cell? _ _ g1;have hlt2:(j:Int)<t.length:=om;have HS:=lh (show zs++(t.drop m).take (j+1-m)=ys++[t[j]] by rw[hys.out,drop_take_one t m j hj1 hlt',List.append_assoc]);clear hys;generalize t[j]=x at *;obtain⟨us,hus⟩:∃us,us=zs++(t.drop m).take (j+1-m):=⟨_,rfl⟩;have HY:=lh hus;have HY2:=lh (hus.trans HS.out);clear hus HS
     go_wp2_with ((at_builtin;refine wpList_app1I (w1:=wr) rfl _ _ _ rfl 3 infoInt Tryz.underlying22 W hext x rfl A' c' ys rfl hown rfl om us HY2.out ?_;intro A2 c2 w2 hown2 hext2 _ _))
     go_roundw
     case rel=>exact⟨j+1,A2,c2,us,om,om,by go_num,HY,rfl,hown2,hext2⟩
     case measure=>simp[intOf];omega
    ·have hj':j=t.length:=om;subst hj';have HF:=lh (show ys=spliceL t k dn l by rw[hys.out,HZ.out,HSL.out]);have hrng:∀x∈ys,I64 x:=by
      intro x hx;rw[HF.out] at hx;simp only[spliceL,List.mem_append] at hx;rcases hx with(hx|hx)|hx
      ·exact hrt x (List.mem_of_mem_take hx)
      ·exact hrl x hx
      ·exact hrt x (List.mem_of_mem_drop hx)
     have HR:=lh hrng;clear hrng hys HZ HSL
     go_wp2
     go_ret
     exact⟨A',c',by rw[←HF.out];rfl,by rw[←HF.out];exact IL.of_own hown HR.out,X0.trans hext,fun b hb=>Nat.le_trans X0.size (OwnS.row hown b hb)⟩
end
section
open Go.RowKit
attribute [local go_sem ↓] Go.wp_at_zero Go.wp_at_succ
theorem isD_get {hs:List Hin}{p:Nat}(h:p<hs.length):isD (insL hs) p=decide (hs[p].op=0):=by
 unfold isD;rw[insL_get h];rfl
theorem castL_get {l:List Nat}{k:Nat}(h:k<l.length):(castL l)[k]'(by rw[castL_len];exact h)=(l[k]:Int):=by simp[castL]
def blkO (A:Option Addr):List Nat:=(A.map (·.block)).toList
theorem blkO_mem {A:Option Addr}{b:Nat}:b∈blkO A↔A.map (·.block)=some b:=by unfold blkO;simp
theorem Kp.thenQ {L:List Nat}{p:Nat→Prop}{a b c:World}(h:Kp L a b)(k:KpP p b c)(hp:∀i,p i→i∈L∨a.heap.size≤i):Kp L a c:=
 ⟨k.os.trans h.os,k.tape.trans h.tape,k.output.trans h.output,Nat.le_trans h.size k.size,fun i hi hn=>(k.block i (Nat.lt_of_lt_of_le hi h.size) (fun hm=>by
  rcases hp i hm with h1|h1
  ·exact hn h1
  ·omega)).trans (h.block i hi hn)⟩
structure StI (a0:World)(G:List Ins)(r:List Nat×List Nat)(A:Option Addr)(c:Nat)(B:Option Addr)(d:Nat)(w:World):Prop where
 l:OwnI w a0.heap.size 3 A c (castL r.1)
 s:OwnI w a0.heap.size 3 B d (castL r.2)
 ap:∀b,A.map (·.block)=some b→B.map (·.block)≠some b
 ok:SeenOk G.length r.2
 len:r.1.length≤r.2.length
end
section
open Go.RowKit
attribute [local go_sem ↓] Go.wp_at_zero Go.wp_at_succ
end
section
open Go.RowKit
theorem infoI64k:(Tryz.prog.info? 3).map (fun i=>(i.zero,i.size,i.bytes))=some (some (.int .i64 0),1,8):=by kernel_rfl
theorem eqI64k (a b:Int)(n:Nat)(w:World):(Op.equalIn (n+1) 3 (.int .i64 a) (.int .i64 b)).run Tryz.prog w=.ok (a == b) w:=by
 have u3:=Tryz.underlying3;unfold Op.equalIn;go_simp
theorem part2k (a b:Int)(w:World):(part 3 #[.int .i64 a,.int .i64 b] (0*1)).run Tryz.prog w=.ok (.int .i64 a) w∧(part 3 #[.int .i64 a,.int .i64 b] (1*1)).run Tryz.prog w=.ok (.int .i64 b) w:=by
 unfold part;constructor<;>go_simp
theorem eqArr2 (a b c d:Int)(w:World):(Op.equalIn 10000 82 (.agg #[.int .i64 a,.int .i64 b]) (.agg #[.int .i64 c,.int .i64 d])).run Tryz.prog w=.ok (a == c&&b == d) w:=by
 obtain⟨i0,hi0,_⟩:=info_parts infoI64k;have hu:Tryz.prog.underlying 82=some (.array 2 3):=by kernel_rfl
 have hc:Tryz.prog.cellsOf 3=1:=by kernel_rfl
 rw[show(10000:Nat)=9999+1 from rfl,run_equalIn_array w 9999 _ _ hu hi0,hc,show(9999:Nat)=9998+1 from rfl]
 show(Op.eqItems (9998+1) 3 1 _ _ [0,1]).run _ _=_
 unfold Op.eqItems;simp only[Sem.run_bind,(part2k a b w).1,(part2k c d w).1,eqI64k,Result.andThen_ok];by_cases h1:a=c
 ·subst h1;simp only[beq_self_eq_true,Bool.not_true,Bool.false_eq_true,if_false,Bool.true_and];unfold Op.eqItems;simp only[Sem.run_bind,(part2k a b w).2,(part2k a d w).2,eqI64k,Result.andThen_ok];by_cases h2:b=d
  ·subst h2;simp[Op.eqItems]
  ·have:(b == d)=false:=by simpa using h2
   simp[this]
 ·have:(a == c)=false:=by simpa using h1
  simp[this]
end
end Go.Proofs.YtmocoldobnimfaaGreat
