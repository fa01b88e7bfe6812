/- Texts of this proof: K13 K14 K12 K7. -/
import Derived.Test.YtmocoldobnimfaaGreatU10
import Derived.Test.YtmocoldobnimfaaGreatU11
set_option linter.all false
set_option maxRecDepth 100000
set_option maxHeartbeats 16000000
namespace Go.Proofs.YtmocoldobnimfaaGreat
section
open Go.RowKit
attribute [local go_sem ↓] Go.wp_at_zero Go.wp_at_succ
theorem runR_snoc {f:St→Int→St}{dn:St→Bool}:∀(l:List Int) (k:Nat) (s:St) (last c:Int),runR f dn (l++[c]) k s last =
 (f (runR f dn l k s last).1 c,if dn (f (runR f dn l k s last).1 c)=true then((k+l.length+1:Nat):Int) else(runR f dn l k s last).2)
 | [],k,s,last,c=>rfl
 | x::l,k,s,last,c=>by
  rw[List.cons_append,runR,runR_snoc l (k+1),runR,List.length_cons];have e:k+1+l.length+1=k+(l.length+1)+1:=om;rw[e]
def rrun (G:List Ins)(s:St)(ts:List Int)(fr:Int):St×Int:=runR (nextG G) (doneG G) ts 0 s (if doneG G s=true∧fr=0 then 0 else -1)
theorem rrun_bd (G:List Ins)(s:St)(ts:List Int)(fr:Int) : -1≤(rrun G s ts fr).2∧(rrun G s ts fr).2≤ts.length:=by
 have gen:∀(l:List Int) (k:Nat) (s:St) (last:Int),-1≤last→last≤k→-1≤(runR (nextG G) (doneG G) l k s last).2∧(runR (nextG G) (doneG G) l k s last).2≤(k+l.length:Nat):=by
  intro l;induction l with
  | nil=>intro k s last h1 h2;simp only[runR,List.length_nil];omega
  | cons c l ih=>
   intro k s last h1 h2;rw[runR,List.length_cons];have:=ih (k+1) (nextG G s c) (if doneG G (nextG G s c)=true then((k+1:Nat):Int) else last) (by split<;>omega) (by split<;>omega);omega
 unfold rrun;have:=gen ts 0 s (if doneG G s=true∧fr=0 then 0 else -1) (by split<;>omega) (by split<;>omega)
 simpa using this
def StOk (n:Nat)(s:St):Prop:=(∀p∈s,p<n)∧s.length≤8192
theorem nextG_ok {runes:Bool}{caps:Int}{hs:List Hin}(hG:GOk runes caps (insL hs))(s:St)(c:Int):StOk hs.length (nextG (insL hs) s c):=by
 refine⟨stateG_lt _,?_⟩;have h1:=stateG_len (G:=insL hs) ((s.filter (symAt (insL hs) c)).map (·+1));have h2:=hG.len;unfold nextG;omega
theorem runR_ok {runes:Bool}{caps:Int}{hs:List Hin}(hG:GOk runes caps (insL hs)):∀(l:List Int) (k:Nat) (s:St) (last:Int),StOk hs.length s→StOk hs.length (runR (nextG (insL hs)) (doneG (insL hs)) l k s last).1
 | [],_,_,_,h=>h
 | _::l,k,s,_,_=>by rw[runR];exact runR_ok hG l (k+1) _ _ (nextG_ok hG s _)
def RetRun (r:St×Int)(w:World)(e:Ending)(w':World):Prop:=∃(A:Option Addr) (c:Nat),e=.returned (.tuple #[.slice A (castL r.1).length c,.int .i64 r.2])∧IL w' A c (castL r.1)∧Ext w w'
theorem K13z2 {P:Prop} (h:P:=by
 clear HR HTS
 go_wp2_with fail
 refine HD5.out.mono ?_;rintro e w6 ⟨rfl,x6⟩;have xf:=(y1.trans y5).trans x6;have HBf:=lh (HB5.out.ext x6)
 go_wp2_with fail
 go_roundw
 case rel=>exact⟨i+1,B,d,by go_num,om,by rw[HRR.out],by rw[HRR.out],by rw[HRR.out];exact HBf,xf⟩
 case measure=>simp[intOf];omega):P:=h
theorem K13z1 {P:Prop} (h:P:=by
 go_enter Tryz.func39,Tryz.ntmps39
 go_wp2_with fail
 refine HD0.out.mono ?_;rintro e w1 ⟨rfl,x1⟩;clear HD0
 go_upto_region 6 with fail
 have bG1:=bG.ext x1;have hP1:=hP0.ext x1;have hT1:=hT0.ext x1;have hS1:=hS0.ext x1;have HLE0:=lh (show(runR (nextG (insL hs)) (doneG (insL hs)) (ts.take 0) 0 s l0).2=l0 from rfl)
 go_loopw [1,10,12] (fun v1 v10 v12 wr=>∃(i:Nat) (A:Option Addr) (c:Nat),v12=.int .i64 i∧i≤ts.length∧v1=.slice A (castL (runR (nextG (insL hs)) (doneG (insL hs)) (ts.take i) 0 s l0).1).length c∧v10=.int .i64 (runR (nextG (insL hs)) (doneG (insL hs)) (ts.take i) 0 s l0).2∧
  Hid (IL wr A c (castL (runR (nextG (insL hs)) (doneG (insL hs)) (ts.take i) 0 s l0).1))∧Ext w1 wr) (fun _ _ v _=>ts.length-(intOf v).toNat)
 case atStart=>exact⟨0,A,c,rfl,om,rfl,by rw[HLE0.out,HLE.out],lh hS1,Ext.rfl' _⟩
 case round=>
  clear HLE HLE0;obtain⟨i,A1,c1,rfl,hi,rfl,rfl,HI,y1⟩:=hrel;have bG2:=bG1.ext y1;obtain⟨r0,r1,r2,r0f,r1f,r2f,rz⟩:=bG2.c3;by_cases hlt:i<ts.length
  ·have hiI:(i:Int)<ts.length:=om;obtain⟨tb,to_,rfl,t0⟩:=(hT1.ext y1).get hlt;have HR:=lh (runR_snoc (f:=nextG (insL hs)) (dn:=doneG (insL hs)) (ts.take i) 0 s l0 ts[i]);have HTS:=lh (show ts.take (i+1)=ts.take i++[ts[i]] from List.take_succ_eq_append_getElem hlt);have HTL:=lh (show(ts.take i).length=i by rw[List.length_take];omega);have HO:=(HOK i).out;generalize hr:runR (nextG (insL hs)) (doneG (insL hs)) (ts.take i) 0 s l0=r at *;obtain⟨rs,rl⟩:=r
   simp only at HI HO HR ⊢
   clear hr;generalize ts[i]=y at *;have HN:=fun(w':World) (x:Ext wr w')=>HNX w' ((hP1.ext y1).ext x) A1 c1 rs (HI.out.ext x) HO.1 HO.2 y;have htp:∀p∈nextG (insL hs) rs y,p<hs.length:=stateG_lt _;have HDD:=fun(w':World) (x:Ext wr w') (B:Option Addr) (d:Nat) (h:IL w' B d (castL (nextG (insL hs) rs y)))=>HDN w' ((hP1.ext y1).ext x) B d _ h htp;obtain⟨t,ht⟩:∃t,t=nextG (insL hs) rs y:=⟨_,rfl⟩
   rw[←ht] at HN HDD HR;clear ht htp;have k0:=kc0 r0;have k1:=kc0 r1;have k2:=kc0 r2;have k3:=kc0 t0
   go_wp2_with fail
   refine Xr.start [] kr ?_;refine Xtk 0 ?_
   iterate 5(refine Xtn ?_)
   refine Xcl 6 fun w3 hE3 hK3 K hKK=>?_;go_simp;refine(HN w3 hE3).out.mono ?_;rintro e w4 ⟨B,d,rfl,hB,x4,_⟩;refine hKK _ _ x4 ?_;clear hKK;refine ptm ?_;refine Xtk 7 ?_;refine Xdn fun w5 hE5 hK5=>?_;have y5:=hK5.nil;have hB5:=hB.ext hE5;have bG5:=bG2.ext y5;have HD5:=HDD w5 y5 B d hB5;have HB5:=lh hB5;clear k0 k1 k2 k3 r0 r1 r2 r0f r1f r2f rz t0 hE3 hK3 hE5 hK5 HN HDD HI hB hB5 x4;obtain⟨r0,r1,r2,r0f,r1f,r2f,rz⟩:=bG5.c3;generalize hdt:doneG (insL hs) t=dt at *;have HDT:=lh hdt;clear hdt;cases dt
   ·have HRR:=lh (show runR (nextG (insL hs)) (doneG (insL hs)) (ts.take (i+1)) 0 s l0=(t,rl) by rw[HTS.out,HR.out];rfl);exact K13z2
   ·have HRR:=lh (show runR (nextG (insL hs)) (doneG (insL hs)) (ts.take (i+1)) 0 s l0=(t,(i:Int)+1) by
     rw[HTS.out,HR.out,HTL.out]
     simp)
    exact K13z2
  ·have hiI:¬(i:Int)<ts.length:=om;have HTA:=lh (show ts.take i=ts from List.take_of_length_le om);rw[HTA.out] at HI ⊢;have HIA:=HI
   go_wp2_with fail
   go_ret2
   exact⟨A1,c1,rfl,HIA.out,(eG.trans x1).trans y1⟩):P:=h
theorem rrun_any (gA:Option Addr)(gc:Nat)(hs:List Hin)(runes:Bool)(caps:Int)(hG:GOk runes caps (insL hs))(w:World)(hP:PL w gA gc hs)(A:Option Addr)(c:Nat)(s:List Nat)(hS:IL w A c (castL s))(hs0:StOk hs.length s)(T:Option Addr)(tc:Nat)(ts:List Int)(hT:IL w T tc ts)(fr:Int) :
 Calls Tryz.prog 39 #[progV gA hs.length gc caps runes,.slice A (castL s).length c,.slice T ts.length tc,.int .i64 fr] w (RetRun (rrun (insL hs) s ts fr) w):=by
 have hcap:=hP.len;have hcT:=hT.len;have bG:=Blk.new w 33 #[.slice gA hs.length gc,.int .i64 caps,.bool runes];have eG:=Ext.alloc w (.cells #[.slice gA hs.length gc,.int .i64 caps,.bool runes] 33);have HNX:=fun(w:World) (hP:PL w gA gc hs) A c l hL hl hll x=>lh (next_any gA gc hs runes caps hG w hP A c l hL hl hll x);have HDN:=fun(w:World) (hP:PL w gA gc hs) A c l hL hl=>lh (done_any gA gc hs runes caps w hP A c l hL hl);have HOK:=fun(k:Nat)=>lh (runR_ok hG (ts.take k) 0 s (if doneG (insL hs) s=true∧fr=0 then 0 else -1) hs0);unfold progV at HNX HDN ⊢;have hP0:=hP.ext eG;have hS0:=hS.ext eG;have hT0:=hT.ext eG;have HD0:=HDN _ hP0 A c s hS0 hs0.1;unfold rrun;obtain⟨l0,hl0⟩:∃l0:Int,l0=(if doneG (insL hs) s=true∧fr=0 then 0 else -1):=⟨_,rfl⟩
 rw[←hl0]
 rw[←hl0] at HOK;have HL0:=lh hl0;clear hl0 hs0 hG;have X:∀W,Ext w W→True:=fun _ _=>trivial;clear X;obtain⟨sd,hsd⟩:∃sd,sd=doneG (insL hs) s:=⟨_,rfl⟩
 rw[←hsd] at HD0;have HSD:=lh hsd;clear hsd;cases sd
 ·have HLE:=lh (show l0 = -1 by rw[HL0.out,if_neg];rintro⟨h,_⟩;rw[←HSD.out] at h;cases h);clear HL0 HSD;exact K13z1
 ·by_cases hf:fr=0
  ·have HLE:=lh (show l0=0 by rw[HL0.out,if_pos ⟨HSD.out.symm,hf⟩]);subst hf;clear HL0 HSD;exact K13z1
  ·have HLE:=lh (show l0 = -1 by rw[HL0.out,if_neg (fun h=>hf h.2)]);have hf2:(fr == 0)=false:=by simp[hf]
   clear HL0 HSD hf;exact K13z1
end
section
open Go.RowKit
theorem infoI64k:(Tryz.prog.info? 3).map (fun i=>(i.zero,i.size,i.bytes))=some (some (.int .i64 0),1,8):=by kernel_rfl
theorem eqI64k (a b:Int)(n:Nat)(w:World):(Op.equalIn (n+1) 3 (.int .i64 a) (.int .i64 b)).run Tryz.prog w=.ok (a == b) w:=by
 have u3:=Tryz.underlying3;unfold Op.equalIn;go_simp
theorem part2k (a b:Int)(w:World):(part 3 #[.int .i64 a,.int .i64 b] (0*1)).run Tryz.prog w=.ok (.int .i64 a) w∧(part 3 #[.int .i64 a,.int .i64 b] (1*1)).run Tryz.prog w=.ok (.int .i64 b) w:=by
 unfold part;constructor<;>go_simp
theorem eqArr2 (a b c d:Int)(w:World):(Op.equalIn 10000 82 (.agg #[.int .i64 a,.int .i64 b]) (.agg #[.int .i64 c,.int .i64 d])).run Tryz.prog w=.ok (a == c&&b == d) w:=by
 obtain⟨i0,hi0,_⟩:=info_parts infoI64k;have hu:Tryz.prog.underlying 82=some (.array 2 3):=by kernel_rfl
 have hc:Tryz.prog.cellsOf 3=1:=by kernel_rfl
 rw[show(10000:Nat)=9999+1 from rfl,run_equalIn_array w 9999 _ _ hu hi0,hc,show(9999:Nat)=9998+1 from rfl]
 show(Op.eqItems (9998+1) 3 1 _ _ [0,1]).run _ _=_
 unfold Op.eqItems;simp only[Sem.run_bind,(part2k a b w).1,(part2k c d w).1,eqI64k,Result.andThen_ok];by_cases h1:a=c
 ·subst h1;simp only[beq_self_eq_true,Bool.not_true,Bool.false_eq_true,if_false,Bool.true_and];unfold Op.eqItems;simp only[Sem.run_bind,(part2k a b w).2,(part2k a d w).2,eqI64k,Result.andThen_ok];by_cases h2:b=d
  ·subst h2;simp[Op.eqItems]
  ·have:(b == d)=false:=by simpa using h2
   simp[this]
 ·have:(a == c)=false:=by simpa using h1
  simp[this]
theorem sameSpans_any (A B:Option Addr)(c d:Nat)(a b:List Sp)(w:World)(ha:SL w A c a)(hb:SL w B d b):Calls Tryz.prog 32 #[.slice A a.length c,.slice B b.length d] w (RetV (.bool (decide (a=b))) w):=by
 have hla:=ha.len;have hlb:=hb.len;have HQ:=fun(x y z u:Int) (W:World)=>eqArr2 x y z u W;by_cases hl:a.length=b.length
 ·have HT:=fun h=>lh (eq_of_all hl h);have HF:=fun j h1 h2 h=>lh (ne_of_one (a:=a) (b:=b) (j:=j) h1 h2 h);generalize decide (a=b)=r at *;have hne:((a.length:Int) != (b.length:Int))=false:=by simp[hl]
  have HL:=lh hl;clear hl;go_enter Tryz.func32,Tryz.ntmps32
  go_wp2_with fail
  go_loopw [5] (fun v wr=>∃i:Nat,v=.int .i64 i∧i≤a.length∧Hid (∀j (h1:j<a.length) (h2:j<b.length),j<i→a[j]=b[j])∧Ext w wr) (fun v _=>a.length-(intOf v).toNat)
  case atStart=>exact⟨0,rfl,om,fun j _ _ hj=>absurd hj (Nat.not_lt_zero _),Ext.rfl' _⟩
  case round=>
   obtain⟨i,rfl,hi,HI,x1⟩:=hrel;by_cases hlt:i<a.length
   ·have hlt2:i<b.length:=by have:=HL.out;omega
    obtain⟨b1,o1,rfl,g1,g2⟩:=(ha.ext x1).get hlt;obtain⟨b2,o2,rfl,g3,g4⟩:=(hb.ext x1).get hlt2;have hI:(i:Int)<a.length:=om;have hI2:(i:Int)<b.length:=om;have HI2:=lh (show a[i]=b[i]→∀j (h1:j<a.length) (h2:j<b.length),j<i+1→a[j]=b[j] from fun hn j h1 h2 hji=>by
     rcases Nat.lt_or_ge j i with h3|h3
     ·exact HI.out j h1 h2 h3
     ·have:j=i:=om;subst this;exact hn)
    have HF2:=HF i hlt hlt2;generalize a[i]=s at *;generalize b[i]=t at *;obtain⟨s1,s2⟩:=s;obtain⟨t1,t2⟩:=t
    simp only at g1 g2 g3 g4 HI2 HF2
    have k1:=kc0 g1;have k2:=kc0 g2;have k3:=kc0 g3;have k4:=kc0 g4;have HEQ:=eqArr2 s1 s2 t1 t2;by_cases he:s1=t1∧s2=t2
    ·obtain⟨rfl,rfl⟩:=he;have HI3:=lh (HI2.out rfl);simp only[beq_self_eq_true,Bool.and_self] at HEQ;clear HI2 HF2 HI HT HF HQ
     go_upto_region 6 with fail
     refine Xr.start [] kr ?_;refine Xtk 0 ?_
     iterate 8(refine Xtn ?_)
     refine Xdn fun w2 hE2 hK2=>?_;have x3:=x1.trans hK2.nil;clear k1 k2 k3 k4 hE2 hK2 HEQ g1 g2 g3 g4
     go_wp2_with fail
     go_roundw
     case rel=>exact⟨i+1,by go_num,om,HI3,x3⟩
     case measure=>simp[intOf];omega
    ·have HR:=HF2 (fun e=>he (by injection e with e1 e2;exact⟨e1,e2⟩));have hbe:(s1 == t1&&s2 == t2)=false:=by
      rw[Bool.eq_false_iff];intro h;simp at h;exact he h
     rw[hbe] at HEQ;clear HI2 HF2 HI HT HF HQ hbe he
     go_upto_region 6 with fail
     refine Xr.start [] kr ?_;refine Xtk 0 ?_
     iterate 8(refine Xtn ?_)
     refine Xdn fun w2 hE2 hK2=>?_;have x3:=x1.trans hK2.nil;clear k1 k2 k3 k4 hE2 hK2 HEQ g1 g2 g3 g4
     go_wp2_with fail
     go_ret
     exact⟨by rw[HR.out];rfl,x3⟩
   ·have hI:¬(i:Int)<a.length:=om;have HR:=HT (fun j h1 h2=>HI.out j h1 h2 om);clear HT HF HI HQ
    go_wp2_with fail
    go_ret
    exact⟨by rw[HR.out];rfl,x1⟩
 ·have HR:=lh (ne_of_len hl);generalize decide (a=b)=r at *;have hne:((a.length:Int) != (b.length:Int))=true:=by simp;omega
  clear hl HQ;go_enter Tryz.func32,Tryz.ntmps32
  go_wp2_with fail
  go_ret
  exact⟨by rw[HR.out];rfl,Ext.rfl' _⟩
end
section
open Go.RowKit
attribute [local go_sem ↓] Go.wp_at_zero Go.wp_at_succ
theorem K12z1 {P:Prop} (h:P:=by
 go_enter Tryz.func76,Tryz.ntmps76
 go_wp2
 go_ret
 exact⟨rfl,Ext.rfl' _⟩):P:=h
theorem r4sym_any (x:Int)(runes:Bool)(w:World):Calls Tryz.prog 76 #[.int .i64 x,.bool runes] w (RetV (.bool (symV runes x)) w):=by
 cases runes
 ·by_cases h1:0≤x
  ·by_cases h2:x≤255
   ·rw[show symV false x=true by simp[symV];omega];exact K12z1
   ·rw[show symV false x=false by simp[symV];omega];exact K12z1
  ·rw[show symV false x=false by simp[symV];omega];exact K12z1
 ·by_cases h1:0≤x
  ·by_cases h2:x<55296
   ·rw[show symV true x=true by simp[symV];omega];exact K12z1
   ·by_cases h3:57343<x
    ·by_cases h4:x≤1114111
     ·rw[show symV true x=true by simp[symV];omega];exact K12z1
     ·rw[show symV true x=false by simp[symV];omega];exact K12z1
    ·rw[show symV true x=false by simp[symV];omega];exact K12z1
  ·rw[show symV true x=false by simp[symV];omega];have h3:¬57343<x:=om;exact K12z1
theorem top_any (gA:Option Addr)(n gc:Nat)(caps:Int)(runes:Bool)(w:World):Calls Tryz.prog 68 #[progV gA n gc caps runes] w (RetV (.int .i64 (topV runes)) w):=by
 unfold progV;cases runes
 ·go_enter Tryz.func68,Tryz.ntmps68
  go_wp2
  go_ret
  exact⟨rfl,Ext.alloc _ _⟩
 ·go_enter Tryz.func68,Tryz.ntmps68
  go_wp2
  go_ret
  exact⟨rfl,Ext.alloc _ _⟩
def RetOut (runes:Bool)(w:World)(e:Ending)(w':World):Prop:=
 ∃(a b:Nat),e=.returned (.func (Fn.func 165) #[] #[.pointer (some ⟨a,0,none⟩),.pointer (some ⟨b,0,none⟩)])∧w'.cell? ⟨a,0,none⟩=some (.int .i64 (topV runes))∧w'.cell? ⟨b,0,none⟩=some (.bool runes)∧Ext w w'
theorem outside_any (runes:Bool)(w:World):Calls Tryz.prog 130 #[.bool runes] w (RetOut runes w):=by
 have hb:=Blk.new w 4 #[.bool runes];have e1:=Ext.alloc w (.cells #[.bool runes] 4);have h1:=fun(t:Int)=>(hb.ext (Ext.alloc (w.alloc (.cells #[.bool runes] 4)) (.cells #[.int .i64 t] 3))).cell 0;have h2:=fun(t:Int)=>(Blk.new (w.alloc (.cells #[.bool runes] 4)) 3 #[.int .i64 t]).cell 0;simp only[World.size_alloc] at h2;replace h1:=lh h1;replace h2:=lh h2;clear hb e1;cases runes
 ·go_enter Tryz.func130,Tryz.ntmps130
  go_wp2
  go_ret
  exact⟨_,_,rfl,h2.out 255,h1.out 255,(Ext.alloc _ _).trans (Ext.alloc _ _)⟩
 ·go_enter Tryz.func130,Tryz.ntmps130
  go_wp2
  go_ret
  exact⟨_,_,rfl,h2.out 1114111,h1.out 1114111,(Ext.alloc _ _).trans (Ext.alloc _ _)⟩
theorem K12z5 {P:Prop} (h:P:=by
 go_enter Tryz.func166,Tryz.ntmps166
 go_wp2
 go_ret
 exact⟨rfl,Ext.rfl' _⟩):P:=h
theorem surr_any (x:Int)(w:World):Calls Tryz.prog 166 #[.int .i64 x] w (RetV (.bool (decide (55296≤x∧x≤57343))) w):=by
 by_cases h1:55296≤x
 ·by_cases h2:x≤57343
  ·rw[decide_eq_true ⟨h1,h2⟩];exact K12z5
  ·rw[decide_eq_false (fun h=>h2 h.2)];exact K12z5
 ·rw[decide_eq_false (fun h=>h1 h.1)];exact K12z5
theorem K12z2 {P:Prop} (h:P:=by
 go_enter Tryz.func165,Tryz.ntmps165
 go_wp2
 go_ret
 exact⟨rfl,Ext.rfl' _⟩):P:=h
theorem K12z4 {P:Prop} (h:P:=by
 clear h3;go_enter Tryz.func165,Tryz.ntmps165
 go_wp2_with fail
 refine(hs _).out.mono ?_;rintro e w1 ⟨rfl,x1⟩
 go_wp2_with fail
 go_ret
 exact⟨rfl,x1⟩):P:=h
theorem outC_any (x:Int)(runes:Bool)(a b:Nat)(w:World)(ha:w.cell? ⟨a,0,none⟩=some (.int .i64 (topV runes)))(hb:w.cell? ⟨b,0,none⟩=some (.bool runes)) :
 Calls Tryz.prog 165 #[.int .i64 x,.pointer (some ⟨a,0,none⟩),.pointer (some ⟨b,0,none⟩)] w (RetV (.bool (!symV runes x)) w):=by
 have hs:=fun(w':World)=>lh (surr_any x w');cases runes
 ·have ht:topV false=255:=rfl;rw[ht] at ha;clear ht hs;by_cases h1:x<0
  ·rw[show symV false x=false by simp[symV];omega];exact K12z2
  ·by_cases h2:255<x
   ·rw[show symV false x=false by simp[symV];omega];exact K12z2
   ·rw[show symV false x=true by simp[symV];omega];exact K12z2
 ·have ht:topV true=1114111:=rfl;rw[ht] at ha;clear ht;by_cases h1:x<0
  ·rw[show symV true x=false by simp[symV];omega];exact K12z2
  ·by_cases h2:1114111<x
   ·rw[show symV true x=false by simp[symV];omega];exact K12z2
   ·by_cases h3:55296≤x∧x≤57343
    ·rw[decide_eq_true h3] at hs;rw[show symV true x=false by simp[symV];omega];exact K12z4
    ·rw[decide_eq_false h3] at hs;rw[show symV true x=true by simp[symV];omega];exact K12z4
theorem allV_bad {runes:Bool}{l:List Int}{k:Nat}(hk:k<l.length)(h:symV runes l[k]=false):l.all (symV runes)=false:=by
 rw[List.all_eq_false];exact⟨l[k],List.getElem_mem hk,by simp[h]⟩
theorem allV_step {runes:Bool}{l:List Int}{k:Nat}(hk:k<l.length)(h0:(l.take k).all (symV runes)=true)(h:symV runes l[k]=true):(l.take (k+1)).all (symV runes)=true:=by
 rw[List.take_succ_eq_append_getElem hk,List.all_append,h0];simp[h]
theorem tindex_any (A:Option Addr)(c:Nat)(l:List Int)(runes:Bool)(a b:Nat)(w:World)(hl:IL w A c l)(ha:w.cell? ⟨a,0,none⟩=some (.int .i64 (topV runes)))(hb:w.cell? ⟨b,0,none⟩=some (.bool runes)) :
 Calls Tryz.prog 164 #[.slice A l.length c,.func (Fn.func 165) #[] #[.pointer (some ⟨a,0,none⟩),.pointer (some ⟨b,0,none⟩)]] w fun e w'=>∃k:Int,e=.returned (.int .i64 k)∧(decide (0≤k) = !l.all (symV runes))∧Ext w w':=by
 obtain⟨a1,a2⟩:=hl.len;go_enter Tryz.func164,Tryz.ntmps164
 go_wp2
 go_loopw [8] (fun i wr=>∃k:Nat,k≤l.length∧i=.int .i64 k∧Hid ((l.take k).all (symV runes)=true)∧Ext w wr) (fun i _=>l.length-(intOf i).toNat)
 case atStart=>exact⟨0,Nat.zero_le _,rfl,rfl,Ext.rfl' _⟩
 case round=>
  obtain⟨k,hk,rfl,ht,hext⟩:=hrel;by_cases hlt:k<l.length
  ·obtain⟨p1,o1,rfl,g1⟩:=hl.get hlt;replace g1:=hext.cell g1;have hlt2:(k:Int)<l.length:=om;have HC:=lh (outC_any l[k] runes a b wr (hext.cell ha) (hext.cell hb));by_cases hs:symV runes l[k]=true
   ·have hs2:=lh (allV_step hlt ht.out hs);rw[hs] at HC;generalize l[k]=y at *;clear hs ht
    go_wp2_with fail
    refine HC.out.mono ?_;rintro e w1 ⟨rfl,hx1⟩;have xf:=hext.trans hx1
    go_wp2
    go_roundw
    case rel=>exact⟨k+1,om,by go_num,hs2,xf⟩
    case measure=>simp[intOf];omega
   ·have hs1:symV runes l[k]=false:=by simpa using hs
    have hbad:=lh (allV_bad hlt hs1);rw[hs1] at HC;generalize l[k]=y at *;clear hs ht hs1
    go_wp2_with fail
    refine HC.out.mono ?_;rintro e w1 ⟨rfl,hx1⟩
    go_wp2
    go_ret
    exact⟨_,rfl,by rw[hbad.out];simp,hext.trans hx1⟩
  ·go_wp2
   go_ret
   have h1:=ht.out;rw[List.take_of_length_le om] at h1;exact⟨_,rfl,by rw[h1];simp,hext⟩
theorem tcontains_any (A:Option Addr)(c:Nat)(l:List Int)(runes:Bool)(a b:Nat)(w:World)(hl:IL w A c l)(ha:w.cell? ⟨a,0,none⟩=some (.int .i64 (topV runes)))(hb:w.cell? ⟨b,0,none⟩=some (.bool runes)) :
 Calls Tryz.prog 129 #[.slice A l.length c,.func (Fn.func 165) #[] #[.pointer (some ⟨a,0,none⟩),.pointer (some ⟨b,0,none⟩)]] w (RetV (.bool (!l.all (symV runes))) w):=by
 have HX:=lh (tindex_any A c l runes a b w hl ha hb);generalize l.all (symV runes)=al at *;cases al
 ·go_enter Tryz.func129,Tryz.ntmps129
  go_wp2_with fail
  refine HX.out.mono ?_;rintro e w2 ⟨k,rfl,hk,x2⟩;have hk0:decide (0≤k)=true:=hk;clear hk
  go_wp2_with fail
  go_ret
  exact⟨rfl,x2⟩
 ·go_enter Tryz.func129,Tryz.ntmps129
  go_wp2_with fail
  refine HX.out.mono ?_;rintro e w2 ⟨k,rfl,hk,x2⟩;have hk0:decide (0≤k)=false:=hk;clear hk
  go_wp2_with fail
  go_ret
  exact⟨rfl,x2⟩
def textE (runes:Bool)(l:List Int):Int:=if 65536<l.length then 4 else if l.all (symV runes)=true then 0 else 5
theorem K12z3 {P:Prop} (h:P:=by
 go_enter Tryz.func79,Tryz.ntmps79
 go_wp2_with fail
 refine HO.out.mono ?_;rintro e w1 ⟨a,b,rfl,h1,h2,x1⟩;have HX2:=HX a b w1 x1 h1 h2;clear HX
 go_wp2_with fail
 refine HX2.out.mono ?_;rintro e w2 ⟨rfl,x2⟩
 go_wp2_with fail
 go_ret
 exact⟨rfl,x1.trans x2⟩):P:=h
theorem tvalid_any (A:Option Addr)(c:Nat)(l:List Int)(runes:Bool)(w:World)(hl:IL w A c l):Calls Tryz.prog 79 #[.slice A l.length c,.bool runes] w (RetV (.int .i64 (textE runes l)) w):=by
 have hcap:=hl.len;by_cases hb:65536<l.length
 ·have hbI:(65536:Int)<l.length:=om;have e:textE runes l=4:=by unfold textE;rw[if_pos hb]
  rw[e];clear e;go_enter Tryz.func79,Tryz.ntmps79
  go_wp2
  go_ret
  exact⟨rfl,Ext.rfl' _⟩
 ·have hbI:¬(65536:Int)<l.length:=om;have HO:=lh (outside_any runes w);have e:textE runes l=if l.all (symV runes)=true then 0 else 5:=by unfold textE;rw[if_neg hb]
  rw[e];clear e hb;have HX:=fun(a b:Nat) (w':World) (x:Ext w w') h1 h2=>lh (tcontains_any A c l runes a b w' (hl.ext x) h1 h2);generalize l.all (symV runes)=al at *;cases al
  ·exact K12z3
  ·exact K12z3
end
section
open Go.RowKit
attribute [local go_sem ↓] Go.wp_at_zero Go.wp_at_succ
theorem wp_appI {w:World}{o:Oper}{a:Act}{K:Act→World→Prop}{Q:Exit→Act→World→Prop}(s x:Operand)(t:Nat)
 (ho:o.op=.call { callee:=.builtin .append,args:=#[s,x],argTypes:=#[t,t] }) (ht:Tryz.prog.underlying t=some (.slice 3))
 (base:Nat) (hbase:base≤w.heap.size) (A:Option Addr) (c:Nat) (xs:List Int) (hs:a.eval s=.slice A xs.length c) (hown:OwnI w base 3 A c xs)
 (B:Option Addr) (d:Nat) (ys:List Int) (hx:a.eval x=.slice B ys.length d) (hy:CellsAt w B (ys.map (Value.int .i64))) (hb:xs.length+ys.length≤1000000000) (zs:List Int) (hz:zs=xs++ys) (dd:Option Tmp) (hd:o.dst=dd)
 (h:∀A' c' w',OwnI w' base 3 A' c' zs→w.grownBy w' (A.map (·.block))→(A'.map (·.block)=A.map (·.block)∨A'.map (·.block)=some w.heap.size)→K (a.put dd (.slice A' zs.length c')) w'):o.wp Tryz.prog a w K Q:=by
 subst hd;obtain⟨iB,jB0,jB1,jB2,jB3⟩:=info_parts infoNk;refine wp_app w s x t ho base 3 iB _ 1 8 ht jB0 jB1 jB2 jB3 rfl om A xs.length c (xs.map (Value.int .i64)) hs hown B ys.length d (ys.map (Value.int .i64)) hx si hy (ints_one _) um om hbase ?_;intro A' c' w' ho' hg hat;subst hz;have hl:(xs++ys).length=xs.length+ys.length:=by simp
 rw[←hl] at ho' ⊢;refine h A' c' w' ?_ hg hat;unfold OwnI;rw[List.map_append];exact ho'
theorem cells_int {w:World}{g T:Nat}{v:Int}(h:Blk w g T #[.int .i64 v]):CellsAt w (some ⟨g,0,none⟩) ([v].map (Value.int .i64)):=fun _=>⟨g,0,rfl,fun i hi=>by
 have:i=0:=by simpa using hi
 subst this;rw[h.cell];rfl⟩
theorem infoLk:(Tryz.prog.info? 22).map (fun i=>(i.zero,i.size,i.bytes))=some (some (.slice none 0 0),1,24):=by kernel_rfl
structure WdM (w:World)(base:Nat)(A:Option Addr)(c:Nat)(xs:List Hl)(B:Option Addr)(d:Nat)(ws:List Hz):Prop where
 st:SZ w base A c (xs.map Hl.z)
 wd:SZ w base B d ws
 ab:∀b,A.map (·.block)=some b→B.map (·.block)≠some b
 sa:∀z∈xs,castL z.l≠[]→∀b,z.A.map (·.block)=some b→B.map (·.block)≠some b
 wa:∀z∈ws,z.l≠[]→∀b,z.A.map (·.block)=some b→A.map (·.block)≠some b
 wl:∀z∈ws,z.l.length≤ws.length
namespace WdM
variable {w w':World} {base c d:Nat} {A B:Option Addr} {xs:List Hl} {ws:List Hz}
theorem ext (h:WdM w base A c xs B d ws)(x:Ext w w'):WdM w' base A c xs B d ws:=⟨h.st.ext x,h.wd.ext x,h.ab,h.sa,h.wa,h.wl⟩
theorem pushS {z:Hl}(h:WdM w base A c xs B d ws)(hz:IL w z.A z.c (castL z.l))(hza:castL z.l≠[]→∀b,z.A.map (·.block)=some b→A.map (·.block)≠some b∧B.map (·.block)≠some b){A':Option Addr}{c':Nat}
 (ho:OwnS w' base 22 1 A' (xs.length+1) c' (flatL xs++[.slice z.A (castL z.l).length z.c])) (hg:(w.alloc (.cells #[.slice z.A (castL z.l).length z.c] 22)).grownBy w' (A.map (·.block)))
 (hat:A'.map (·.block)=A.map (·.block)∨A'.map (·.block)=some (w.alloc (.cells #[.slice z.A (castL z.l).length z.c] 22)).heap.size):WdM w' base A' c' (xs++[z]) B d ws:=by
 have kk:=KpP.of_grown hg;have ex:=Ext.alloc w (.cells #[.slice z.A (castL z.l).length z.c] 22);have hp:=SZ.push (z:=z.z) (w':=w') h.st hz (fun hx b hb=>(hza hx b hb).1) (A':=A') (c':=c') (by rw[List.length_map,flatZ_z];exact ho) hg hat;have e:xs.map Hl.z++[z.z]=(xs++[z]).map Hl.z:=by simp
 rw[e] at hp;refine⟨hp,(h.wd.ext ex).kp kk (fun b hb e=>h.ab b e hb) (fun y hy hx b hb e=>h.wa y hy hx b hb e),fun b hb e2=>?_,fun y hy hx b hb=>?_,fun y hy hx b hb e2=>?_,h.wl⟩
 ·rcases hat with e3|e3
  ·rw[e3] at hb;exact h.ab b hb e2
  ·rw[e3] at hb;injection hb with hb
   have:=(OwnS.blt h.wd.own e2).1;simp only[World.size_alloc] at hb;omega
 ·rcases List.mem_append.1 hy with hy|hy
  ·exact h.sa y hy hx b hb
  ·have:y=z:=by simpa using hy
   subst this;exact(hza hx b hb).2
 ·rcases hat with e3|e3
  ·rw[e3] at e2;exact h.wa y hy hx b hb e2
  ·rw[e3] at e2;injection e2 with e2
   have:=(h.wd.il y hy).bltz hx hb;simp only[World.size_alloc] at e2;omega
theorem pushW {z:Hz}(h:WdM w base A c xs B d ws)(hzl:z.l.length≤ws.length+1)(hz:IL w z.A z.c z.l)(hza:z.l≠[]→∀b,z.A.map (·.block)=some b→A.map (·.block)≠some b∧B.map (·.block)≠some b){B':Option Addr}{d':Nat}
 (ho:OwnS w' base 22 1 B' (ws.length+1) d' (flatZ ws++[.slice z.A z.l.length z.c])) (hg:(w.alloc (.cells #[.slice z.A z.l.length z.c] 22)).grownBy w' (B.map (·.block)))
 (hat:B'.map (·.block)=B.map (·.block)∨B'.map (·.block)=some (w.alloc (.cells #[.slice z.A z.l.length z.c] 22)).heap.size):WdM w' base A c xs B' d' (ws++[z]):=by
 have kk:=KpP.of_grown hg;have ex:=Ext.alloc w (.cells #[.slice z.A z.l.length z.c] 22);have hp:=SZ.push (z:=z) (w':=w') h.wd hz (fun hx b hb=>(hza hx b hb).2) (A':=B') (c':=d') ho hg hat;refine⟨(h.st.ext ex).kp kk (fun b hb e=>h.ab b hb e) (fun y hy hx b hb e=>?_),hp,fun b hb e2=>?_,fun y hy hx b hb e2=>?_,fun y hy hx b hb=>?_,fun y hy=>?_⟩
 ·obtain⟨q,hq,rfl⟩:=List.mem_map.1 hy;exact h.sa q hq hx b hb e
 ·rcases hat with e3|e3
  ·rw[e3] at e2;exact h.ab b hb e2
  ·rw[e3] at e2;injection e2 with e2
   have:=(OwnS.blt h.st.own hb).1;simp only[World.size_alloc] at e2;omega
 ·rcases hat with e3|e3
  ·rw[e3] at e2;exact h.sa y hy hx b hb e2
  ·rw[e3] at e2;injection e2 with e2
   have:=(h.st.il y.z (List.mem_map_of_mem hy)).bltz hx hb;simp only[World.size_alloc] at e2;omega
 ·rcases List.mem_append.1 hy with hy|hy
  ·exact h.wa y hy hx b hb
  ·have:y=z:=by simpa using hy
   subst this;exact(hza hx b hb).1
 ·rw[List.length_append];rcases List.mem_append.1 hy with hy|hy
  ·have:=h.wl y hy;simp only[List.length_cons,List.length_nil];omega
  ·have:y=z:=by simpa using hy
   subst this;simpa using hzl
end WdM
def RetW (f:St→Int→St)(cs:List Int)(dn:St→Bool)(s:St)(w:World)(e:Ending)(w':World):Prop:=
 ∃(A:Option Addr) (c:Nat) (wd:List Int) (b:Bool),e=.returned (.tuple #[.slice A wd.length c,.bool b])∧IL w' A c wd∧Ext w w'∧(b=true→wd≠[]∧(∀x∈wd,x∈cs)∧dn (wd.foldl f s)=true)∧(b=false→wd=[]∧¬Opn f cs dn s)
theorem K7z1 {P:Prop} (h:P:=by
 go_wp2_with fail
 go_roundw
 case rel=>exact⟨k+1,some ⟨sb,so,none⟩,c1,xs,some ⟨vb,vo,none⟩,d1,ws,by go_num,om,hi,rfl,rfl,HSK2,HMf,xf⟩
 case measure=>simp[intOf];omega):P:=h
theorem word_any (gA:Option Addr)(gc:Nat)(hs:List Hin)(runes:Bool)(caps:Int)(hG:GOk runes caps (insL hs))(w:World)(hP:PL w gA gc hs)(SA:Option Addr)(sn sc:Nat)(YA:Option Addr)(yc:Nat)(ys:List Int)(hY:IL w YA yc ys)(hyl:ys.length≤10000)(OA:Option Addr)(on oc:Nat)
 (A:Option Addr) (c:Nat) (s:List Nat) (hS:IL w A c (castL s)) (hsl:∀p∈s,p<hs.length) (hs8:s.length≤8192) (R:List St) (hR:R.length≤1024) (hRc:∀x∈R,∀y∈ys,nextG (insL hs) x y=[]∨nextG (insL hs) x y∈R) (hsR:∀y∈ys,nextG (insL hs) s y=[]∨nextG (insL hs) s y∈R)
 (hRl:∀x∈R,(∀p∈x,p<hs.length)∧x.length≤8192) :
 Calls Tryz.prog 41 #[mchV gA hs.length gc caps runes SA sn sc YA ys.length yc OA on oc,.slice A (castL s).length c] w (RetW (nextG (insL hs)) ys (doneG (insL hs)) s w):=by
 obtain⟨iN,jN0,jN1,jN2,jN3⟩:=info_parts infoNk;obtain⟨iL,jL0,jL1,jL2,jL3⟩:=info_parts infoLk;have hcap:=hP.len;have hcY:=hY.len;have hcS:=hS.len;have HSL:=lh (castL_len s);have bG:=Blk.new w 53 #[.slice gA hs.length gc,.int .i64 caps,.bool runes,.slice SA sn sc,.slice YA ys.length yc,.slice OA on oc];have eG:=Ext.alloc w (.cells #[.slice gA hs.length gc,.int .i64 caps,.bool runes,.slice SA sn sc,.slice YA ys.length yc,.slice OA on oc] 53);have HNX:=fun(w:World) (hP:PL w gA gc hs) A c l hL hl hll x=>lh (next_any gA gc hs runes caps hG w hP A c l hL hl hll x);have HDN:=fun(w:World) (hP:PL w gA gc hs) A c l hL hl=>lh (done_any gA gc hs runes caps w hP A c l hL hl);have HFD:=fun(A:Option Addr) c (hs:List Hl) S sc s w hL hS=>lh (find_any A c hs S sc s w hL hS);unfold progV at HNX HDN;unfold mchV;have HRC:=lh hRc;have HSR:=lh hsR;have HRL:=lh hRl;have HSS:=lh hsl;have HGG:=lh hG;clear hRc hsR hRl hsl hG;go_enter Tryz.func41,Tryz.ntmps41
 go_upto_region 1 with fail
 have hP0:=hP.ext eG;have hY0:=hY.ext eG;have hS0:=hS.ext eG;generalize w.alloc (.cells #[.slice gA hs.length gc,.int .i64 caps,.bool runes,.slice SA sn sc,.slice YA ys.length yc,.slice OA on oc] 53)=w0 at *;have b1:=Blk.new w0 22 #[.slice A (castL s).length c];have e1:=Ext.alloc w0 (.cells #[.slice A (castL s).length c] 22);have SZ1:=lh (SZ.one (z:=⟨A,c,castL s⟩) b1 (Nat.le_refl _) (hS0.ext e1) (fun hx b hb=>by have:=hS0.bltz hx hb;omega))
 go_upto_region 2 with fail
 have n1:w0.heap.size<(w0.alloc (.cells #[.slice A (castL s).length c] 22)).heap.size:=by simp
 obtain⟨g1,hg1⟩:∃g1,g1=w0.heap.size:=⟨_,rfl⟩
 rw[←hg1] at SZ1 ⊢;generalize w0.alloc (.cells #[.slice A (castL s).length c] 22)=w1 at *;have b2:=Blk.new w1 22 #[.slice none 0 0];have e2:=Ext.alloc w1 (.cells #[.slice none 0 0] 22);have SZ2:=lh (SZ.one (base:=g1) (z:=⟨none,0,[]⟩) b2 om (IL.nil _) (fun hx=>absurd rfl hx))
 go_upto_region 4 with fail
 have SZ1b:=lh (SZ1.out.ext e2);have x2:=e1.trans e2;obtain⟨g2,hg2⟩:∃g2,g2=w1.heap.size:=⟨_,rfl⟩
 rw[←hg2] at SZ2 ⊢;generalize w1.alloc (.cells #[.slice none 0 0] 22)=w2 at *;have hn2:w0.heap.size<w1.heap.size:=om;have HG1:=lh hg1;clear SZ1 b1 b2 e1 e2;have HM0:=lh (show WdM w2 w0.heap.size (some ⟨g1,0,none⟩) 1 [⟨A,c,s⟩] (some ⟨g2,0,none⟩) 1 [⟨none,0,[]⟩] from by
  have h1:=SZ1b.out;have h2:=SZ2.out;rw[show g1=w0.heap.size from HG1.out] at h2;have h1:SZ w2 w0.heap.size (some ⟨g1,0,none⟩) 1 [⟨A,c,castL s⟩]:=by
   have h3:=h1;have h4:=HG1.out;clear h2
   revert h3
   generalize (some (⟨g1,0,none⟩:Addr))=AA;rw[h4];exact fun h=>h
  refine⟨h1,h2,fun b hb e=>?_,fun z hz hx b hb e=>?_,fun z hz hx b hb=>?_,fun z hz=>?_⟩
  ·have e1:g1=b:=by simpa using hb
   have e2:g2=b:=by simpa using e
   have:=HG1.out;omega
  ·have:z=⟨A,c,s⟩:=by simpa using hz
   subst this;have e2:g2=b:=by simpa using e
   have:=hS0.bltz hx hb;omega
  ·have:z=⟨none,0,[]⟩:=by simpa using hz
   subst this;exact absurd rfl hx
  ·have:z=⟨none,0,[]⟩:=by simpa using hz
   subst this;simp)
 have HI0:=lh (WdI.start (nextG (insL hs)) ys (doneG (insL hs)) R s);have X2:=eG.trans x2;have hw02:w.heap.size<w0.heap.size:=bG.lt;clear SZ1b SZ2 hS0 hg2 n1 hg1 HG1 hn2
 go_loopw [6,7,8] (fun v6 v7 v8 wr=>∃(i:Nat) (A:Option Addr) (c:Nat) (xs:List Hl) (B:Option Addr) (d:Nat) (ws:List Hz),v8=.int .i64 i∧i≤xs.length∧v6=.slice A xs.length c∧v7=.slice B ws.length d∧
  Hid (WdI (nextG (insL hs)) ys (doneG (insL hs)) R s (stsOf xs) (ws.map (·.l)) i 0)∧Hid (WdM wr w0.heap.size A c xs B d ws)∧Ext w0 wr) (fun _ _ v _=>1026-(intOf v).toNat)
 case atStart=>exact⟨0,_,1,[⟨A,c,s⟩],_,1,[⟨none,0,[]⟩],rfl,by simp,rfl,rfl,HI0,HM0,x2⟩
 case round=>
  clear HI0 HM0;obtain⟨i,A1,c1,xs,B1,d1,ws,rfl,hi,rfl,rfl,HI,HM,x1⟩:=hrel;have hxl:=HI.out.bound hR;rw[stsOf_len] at hxl;by_cases hlt:i<xs.length
  ·have hiI:(i:Int)<xs.length:=om;have HI1:=HI;have HM1:=HM
   go_upto_region 7 with fail
   clear HI HM;obtain⟨wz,hwz⟩:∃wz,wz=wr:=⟨_,rfl⟩;subst hwz
   go_loopw [6,7,9] (fun v6 v7 v9 wr=>∃(k:Nat) (A:Option Addr) (c:Nat) (xs:List Hl) (B:Option Addr) (d:Nat) (ws:List Hz),v9=.int .i64 k∧k≤ys.length∧i<xs.length∧v6=.slice A xs.length c∧v7=.slice B ws.length d∧
    Hid (WdI (nextG (insL hs)) ys (doneG (insL hs)) R s (stsOf xs) (ws.map (·.l)) i k)∧Hid (WdM wr w0.heap.size A c xs B d ws)∧Ext w0 wr) (fun _ _ v _=>ys.length-(intOf v).toNat)
   case atStart=>exact⟨0,A1,c1,xs,B1,d1,ws,rfl,om,hlt,rfl,rfl,HI1,HM1,x1⟩
   case round=>
    clear HI1 HM1 x1 hxl hi hlt hiI;obtain⟨k,A1,c1,xs,B1,d1,ws,rfl,hk,hi,rfl,rfl,HI,HM,x1⟩:=hrel;have hxl:=HI.out.bound hR;rw[stsOf_len] at hxl;have hiI:(i:Int)<xs.length:=om;have hwl:ws.length=xs.length:=by have:=HI.out.len;rw[List.length_map,stsOf_len] at this;exact this
    have HWL:=lh hwl;have bG3:=bG.ext x1;have r4:wr.cell? ⟨w.heap.size,4,none⟩=some (.slice YA ys.length yc):=bG3.cell 4;by_cases hkt:k<ys.length
    ·have hkI:(k:Int)<ys.length:=om;have hin:=HI.out.inR xs[i].l (List.mem_map_of_mem (List.getElem_mem hi));have hgx:(stsOf xs)[i]'(by rw[stsOf_len];exact hi)=xs[i].l:=by simp[stsOf]
     have hgw:(ws.map (·.l))[i]'(by rw[List.length_map];omega)=(ws[i]'om).l:=by simp
     have HSK:=fun hd ht=>lh (HI.out.skip (by rw[stsOf_len];exact hi) hkt hd ht);have HAD:=fun hd hn hr=>lh (HI.out.add (by rw[stsOf_len];exact hi) hkt hd hn hr (by rw[List.length_map];omega));have HWD:=HI.out.word i (by rw[stsOf_len];exact hi) (by rw[List.length_map];omega);rw[hgx] at HSK HAD HWD;rw[hgw] at HAD HWD;have hwlen:=HM.out.wl _ (List.getElem_mem (show i<ws.length by omega));have hxp:(∀p∈xs[i].l,p<hs.length)∧xs[i].l.length≤8192:=by
      rcases hin with h|h
      ·rw[h];exact⟨HSS.out,hs8⟩
      ·exact HRL.out _ h
     have htR:nextG (insL hs) xs[i].l ys[k]=[]∨nextG (insL hs) xs[i].l ys[k]∈R:=by
      rcases hin with h|h
      ·rw[h];exact HSR.out _ (List.getElem_mem hkt)
      ·exact HRC.out _ h _ (List.getElem_mem hkt)
     have htp:∀p∈nextG (insL hs) xs[i].l ys[k],p<hs.length:=stateG_lt _;have hym:=List.getElem_mem hkt;obtain⟨sb,so,rfl,s0⟩:=HM.out.st.ln.get hi;obtain⟨vb,vo,rfl,v0⟩:=HM.out.wd.get (k:=i) om;obtain⟨yb,yo,rfl,y0⟩:=(hY0.ext x1).get hkt;have hyI:=(hY0.ext x1).wf hkt;have hilx:=HM.out.st.il _ (List.mem_map_of_mem (List.getElem_mem hi));have hilw:=HM.out.wd.il _ (List.getElem_mem (show i<ws.length by omega));simp only[Hl.z] at hilx;have HST:=lh (lh HM);generalize xs[i]=X at *;generalize ws[i]'om=W at *;generalize ys[k]=y at *;obtain⟨XA,xc,xl⟩:=X;obtain⟨WA,wc,wl⟩:=W
     simp only at s0 v0 hilx hilw HSK HAD HWD hwlen hxp htR htp
     clear hgx hgw hin HI;have r0:wr.cell? ⟨w.heap.size,0,none⟩=some (.slice gA hs.length gc):=bG3.cell 0;have r1:wr.cell? ⟨w.heap.size,1,none⟩=some (.int .i64 caps):=bG3.cell 1;have r2:wr.cell? ⟨w.heap.size,2,none⟩=some (.bool runes):=bG3.cell 2;have k0:=kc0 r0;have k1:=kc0 r1;have k2:=kc0 r2;have k4:=kc0 r4;have k5:=kc0 s0;have k6:=kc0 y0;have HNC:=fun(w':World) (h:Ext wr w')=>HNX w' ((hP0.ext x1).ext h) XA xc xl (hilx.ext h) hxp.1 hxp.2 y;obtain⟨t,ht⟩:∃t,t=nextG (insL hs) xl y:=⟨_,rfl⟩
     rw[←ht] at HSK HAD htR htp HNC;replace ht:=lh ht;replace htp:=lh htp;replace htR:=lh htR;replace HWD:=lh HWD;replace hxp:=lh hxp;replace hwl:=lh hwl
     go_wp2_with fail
     clear r0 r1 r2 r4;refine Xr.start [] kr ?_;refine Xtk 0 ?_
     iterate 10(refine Xtn ?_)
     refine Xcl 11 fun w3 hE3 hK3 K hKK=>?_;go_simp;refine(HNC w3 hE3).out.mono ?_;rintro e w4 ⟨T,tc,rfl,hT,x4,fT⟩;refine hKK _ _ x4 ?_;clear hKK;refine ptm ?_;refine Xtk 12 ?_;refine Xdn fun w5 hE5 hK5=>?_;have y5:=hK5.nil;have hT5:=hT.ext hE5;have HM5:=lh (HM.out.ext y5);have bG5:=bG3.ext y5;have hsb:sb<wr.heap.size:=World.block_lt_of_cell? _ _ s0;have hvb:vb<wr.heap.size:=World.block_lt_of_cell? _ _ v0;have hwl3:wl.length≤1025:=by have:=HWL.out;omega
     have hTf:∀b,T.map (·.block)=some b→wr.heap.size≤b:=fun b hb=>Nat.le_trans hE3.size (fT b hb);have HTF:=lh hTf;have hT5s:=hT5.len;have v5:=y5.cell v0;have yy5:=y5.cell y0;have hiw5:=hilw.ext y5;have X5:=x1.trans y5;have r0:w5.cell? ⟨w.heap.size,0,none⟩=some (.slice gA hs.length gc):=bG5.cell 0;have r1:w5.cell? ⟨w.heap.size,1,none⟩=some (.int .i64 caps):=bG5.cell 1;have r2:w5.cell? ⟨w.heap.size,2,none⟩=some (.bool runes):=bG5.cell 2;have r4:w5.cell? ⟨w.heap.size,4,none⟩=some (.slice (some ⟨yb,yo,none⟩) ys.length yc):=bG5.cell 4;have hsz5:=y5.size;clear k0 k1 k2 k4 k5 k6 HNC hE3 hK3 hE5 hK5 hT hTf s0 v0 y0 hilx hilw HM HST bG3 fT x4
     go_upto_region 11 with fail
     have k0:=kc0 r4;have k1:=kc0 v5;have k2:=kc0 yy5;have hiI2:(i:Int)<ws.length:=by have:=HWL.out;omega
     refine Xr.start [] kr ?_;refine Xtk 0 ?_
     iterate 4(refine Xtn ?_)
     refine Xtk 6 ?_
     iterate 4(refine Xtn ?_)
     refine Xr.lazy 11 53 12 (fun g=>.slice (some ⟨g,0,none⟩) 1 1) 3 #[.int .i64 y] rfl si dK si (fun w'=>by go_simp) ?_;refine Xcl 5 fun w6 hE6 hK6 K hKK=>?_;refine wp_appI _ _ _ rfl Tryz.underlying22 w5.heap.size hE6.size none 0 [] rfl (OwnS.nil _ _ _ _) WA wc wl rfl (hiw5.ext hE6).cells (by simp only[List.length_nil];omega) wl rfl (some 47) rfl ?_;intro A' c' w7 ho hg hat;have hE7:Ext w6 w7:=(Ext.rfl' w6).grown hg si;refine hKK _ _ hE7 ?_;clear hKK;refine ptm ?_;refine Xr.stepZ rfl dK (fun _=>by rfl) (fun w8 gq hE8 hK8 hgq hq hno K hKK=>?_);refine wp_appI _ _ _ rfl Tryz.underlying22 w5.heap.size hK8.size A' c' wl rfl (OwnS.ext ho hE8) (some ⟨gq,0,none⟩) 1 [y] rfl (cells_int hq) (by simp only[List.length_cons,List.length_nil];omega) (wl++[y]) rfl (some 54) rfl ?_;intro A2 c2 w9 ho2 hg2 hat2;refine hKK _ _ (WI_grown hg2 (fun b hb=>.inr ⟨(w6.heap.size,w7.heap.size),by simp,?_,(OwnS.blt ho hb).1⟩)) (hK8.grownL hg2 (fun b hb=>.inr (OwnS.row ho b hb))) ?_
     ·rcases hat with h|h
      ·rw[h] at hb;simp at hb
      ·rw[h] at hb;have:w6.heap.size=b:=by simpa using hb
       simp only;omega
     clear hKK;obtain⟨W2,hW2⟩:∃W2,W2=wl++[y]:=⟨_,rfl⟩
     rw[←hW2] at ho2 ⊢;replace hW2:=lh hW2;refine ptm ?_;refine Xtk 13 ?_;refine Xdn fun w10 hE10 hK10=>?_;have y10:=hK10.nil;have hI2:=IL.of_own (OwnS.ext ho2 hE10) (by
      rw[hW2.out];intro x hx;rcases List.mem_append.1 hx with hx|hx
      ·exact hiw5.rng x hx
      ·have:x=y:=by simpa using hx
       subst this;exact hyI)
     have HW2F:=lh (show ∀b,A2.map (·.block)=some b→w5.heap.size≤b from OwnS.row ho2);have bG10:=bG5.ext y10;have HM10:=lh (HM5.out.ext y10);have hT10:=hT5.ext y10;have X10:=X5.trans y10;have sz10:=y10.size;clear k0 k1 k2 r0 r1 r2 r4 hE6 hK6 ho hg hat hE7 hE8 hK8 hgq hq hno ho2 hg2 hat2 hE10 hK10 HM5 hT5 hiw5 v5 yy5 bG5 hiI2 y5 y10 X5;obtain⟨q0,q1,q2⟩:w10.cell? ⟨w.heap.size,0,none⟩=some (.slice gA hs.length gc)∧w10.cell? ⟨w.heap.size,1,none⟩=some (.int .i64 caps)∧w10.cell? ⟨w.heap.size,2,none⟩=some (.bool runes):=⟨bG10.cell 0,bG10.cell 1,bG10.cell 2⟩;have HD:=HDN w10 (hP0.ext X10) T tc t hT10 htp.out;have HTL:=lh (castL_len t);by_cases hd:doneG (insL hs) t=true
     ·rw[hd] at HD;have HF:=lh (show W2≠[]∧(∀x∈W2,x∈ys)∧doneG (insL hs) (W2.foldl (nextG (insL hs)) s)=true from by
       rw[hW2.out];refine⟨by simp,fun x hx=>?_,?_⟩
       ·rcases List.mem_append.1 hx with hx|hx
        ·exact HWD.out.2 x hx
        ·have:x=y:=by simpa using hx
         subst this;exact hym
       ·rw[List.foldl_append,HWD.out.1]
        show doneG (insL hs) (nextG (insL hs) xl y)=true
        rw[←ht.out];exact hd)
      clear HSK HAD hd
      go_wp2_with fail
      refine HD.out.mono ?_;rintro e w11 ⟨rfl,x11⟩
      go_wp2_with fail
      go_ret2
      exact⟨A2,c2,W2,true,rfl,hI2.ext x11,(eG.trans X10).trans x11,fun _=>HF.out,fun h=>(by cases h)⟩
     ·have hd2:doneG (insL hs) t=false:=by simpa using hd
      rw[hd2] at HD;have HFF:=fun(w':World) (h:Ext w10 w')=>HFD (some ⟨sb,so,none⟩) c1 xs T tc t w' (HM10.out.ext h).st.ln (hT10.ext h);by_cases hm:t∈stsOf xs
      ·have HSK2:=HSK hd2 (.inr hm);rw[decide_eq_true hm] at HFF;clear hm HSK HAD hd hd2
       go_wp2_with fail
       refine HD.out.mono ?_;rintro e w11 ⟨rfl,x11⟩;have HF2:=HFF w11 x11;clear HFF
       go_wp2_with fail
       refine HF2.out.mono ?_;rintro e w12 ⟨rfl,x12⟩;have xf:=(X10.trans x11).trans x12;have HMf:=lh ((HM10.out.ext x11).ext x12);by_cases h0:0<(castL t).length
       ·have h0I:(0:Int)<(castL t).length:=om;exact K7z1
       ·have h0I:¬(0:Int)<(castL t).length:=om;exact K7z1
      ·rw[decide_eq_false hm] at HFF;by_cases ht0:t=[]
       ·have HSK2:=HSK hd2 (.inl ht0);have h0I:¬(0:Int)<(castL t).length:=by rw[ht0];simp[castL]
        clear hm HSK HAD hd hd2 ht0
        go_wp2_with fail
        refine HD.out.mono ?_;rintro e w11 ⟨rfl,x11⟩;have HF2:=HFF w11 x11;clear HFF
        go_wp2_with fail
        refine HF2.out.mono ?_;rintro e w12 ⟨rfl,x12⟩;have xf:=(X10.trans x11).trans x12;have HMf:=lh ((HM10.out.ext x11).ext x12);exact K7z1
       ·have h0I:(0:Int)<(castL t).length:=by
         rw[castL_len];have:=List.length_pos_iff.2 ht0;omega
        have HAD2:=HAD hd2 hm (htR.out.resolve_left ht0);rw[show wl++[y]=W2 from hW2.out.symm] at HAD2;have hW2l:W2.length≤ws.length+1:=by rw[hW2.out,List.length_append];simp only[List.length_cons,List.length_nil];omega
        clear hm HSK HAD hd hd2 ht0
        go_wp2_with fail
        refine HD.out.mono ?_;rintro e w11 ⟨rfl,x11⟩;have HF2:=HFF w11 x11;clear HFF
        go_wp2_with fail
        refine HF2.out.mono ?_;rintro e w12 ⟨rfl,x12⟩;have HM12:=lh ((HM10.out.ext x11).ext x12);have X12:=(X10.trans x11).trans x12;have hT12:=(hT10.ext x11).ext x12;have hI12:=(hI2.ext x11).ext x12;have hownS:=lh (show OwnS w12 w0.heap.size 22 1 (some ⟨sb,so,none⟩) xs.length c1 (flatL xs) from by
         have:=HM12.out.st.own
         rwa [flatZ_z,List.length_map] at this)
        have hwS:ws.length≤1025:=by have:=HWL.out;omega
        clear HF2 HD bG10 q0 q1 q2
        go_upto_region 18 with((at_builtin;refine wpList_app _ rfl _ _ _ rfl w0.heap.size 22 iL (.slice none 0 0) 1 24 Tryz.underlying50 jL0 jL1 jL2 jL3 rfl om (some ⟨sb,so,none⟩) xs.length c1 (flatL xs) rfl (OwnS.ext hownS.out (Ext.alloc _ _)) _ 1 1 [.slice T (castL t).length tc] rfl rfl (blk_cells (Blk.new _ _ _)) (by intro u hu;obtain rfl:=List.mem_singleton.1 hu;rfl) um om (X12.trans (Ext.alloc _ _)).size ?_;intro A3 c3 w13 ho13 hg13 hat13))
        have HM13:=lh (HM12.out.pushS (z:=⟨T,tc,t⟩) hT12 (fun hx b hb=>by
         have h1:=HTF.out b hb;refine⟨fun e=>?_,fun e=>?_⟩
         ·have:sb=b:=by simpa using e
          omega
         ·have:vb=b:=by simpa using e
          omega) ho13 hg13 hat13)
        have x13:Ext w0 w13:=Ext.app (X12.trans (Ext.alloc _ _)) (OwnS.ext hownS.out (Ext.alloc _ _)) hg13;have kk13:=KpP.of_grown hg13;have hI13:IL w13 A2 c2 W2:=(hI12.ext (Ext.alloc _ _)).kpz kk13 (fun hx b hb e=>by
         have h1:=HW2F.out b hb;have:sb=b:=by simpa using e
         omega)
        have hA3:=lh (show ∀b,A2.map (·.block)=some b→W2≠[]→A3.map (·.block)≠some b from fun b hb hx e=>by
         have h1:=HW2F.out b hb;have h2:=hI12.bltz hx hb;rcases hat13 with h|h
         ·rw[h] at e;have:sb=b:=by simpa using e
          omega
         ·rw[h] at e;injection e with e
          simp only[World.size_alloc] at e;omega)
        have hownW:=lh (HM13.out.wd.own);clear ho13 hg13 hat13 kk13 hownS HM12 hT12 hI12 hT10 hI2 HM10 x11 x12 X10 X12;have HL2:=lh (show(xs++[(⟨T,tc,t⟩:Hl)]).length=xs.length+1 by simp);have HL3:=lh (show(ws++[(⟨A2,c2,W2⟩:Hz)]).length=ws.length+1 by simp);have HAD3:=lh (show WdI (nextG (insL hs)) ys (doneG (insL hs)) R s (stsOf (xs++[(⟨T,tc,t⟩:Hl)])) ((ws++[(⟨A2,c2,W2⟩:Hz)]).map (·.l)) i (k+1) from by
         have h1:=HAD2.out;have e1:stsOf (xs++[(⟨T,tc,t⟩:Hl)])=stsOf xs++[t]:=by simp[stsOf]
         have e2:(ws++[(⟨A2,c2,W2⟩:Hz)]).map (·.l)=ws.map (·.l)++[W2]:=by simp
         rw[e1,e2];exact h1)
        clear HAD2
        go_wp2_with ((at_builtin;refine wpList_app _ rfl _ _ _ rfl w0.heap.size 22 iL (.slice none 0 0) 1 24 Tryz.underlying50 jL0 jL1 jL2 jL3 rfl om (some ⟨vb,vo,none⟩) ws.length d1 (flatZ ws) rfl (OwnS.ext hownW.out (Ext.alloc _ _)) _ 1 1 [.slice A2 W2.length c2] rfl rfl (blk_cells (Blk.new _ _ _)) (by intro u hu;obtain rfl:=List.mem_singleton.1 hu;rfl) um om (x13.trans (Ext.alloc _ _)).size ?_;intro B3 d3 w14 ho14 hg14 hat14))
        have HM14:=lh (HM13.out.pushW (z:=⟨A2,c2,W2⟩) hW2l hI13 (fun hx b hb=>by
         have h1:=HW2F.out b hb;refine⟨hA3.out b hb hx,fun e=>?_⟩;have:vb=b:=by simpa using e
         omega) ho14 hg14 hat14)
        have x14:Ext w0 w14:=Ext.app (x13.trans (Ext.alloc _ _)) (OwnS.ext hownW.out (Ext.alloc _ _)) hg14;have hi2:i<(xs++[(⟨T,tc,t⟩:Hl)]).length:=by rw[HL2.out];omega
        clear ho14 hg14 hat14 HM13 hownW;go_roundw
        case rel=>exact⟨k+1,A3,c3,xs++[⟨T,tc,t⟩],B3,d3,ws++[⟨A2,c2,W2⟩],by go_num,om,hi2,by rw[HL2.out],by rw[HL3.out],HAD3,HM14,x14⟩
        case measure=>simp[intOf];omega
    ·have hkI:¬(k:Int)<ys.length:=om;have HRW:=lh (HI.out.row om);clear hwl
     go_wp2_with fail
     go_roundw
     case rel=>exact⟨i+1,A1,c1,xs,B1,d1,ws,by go_num,om,rfl,rfl,HRW,HM,x1⟩
     case measure=>simp[intOf];omega
  ·have hiI:¬(i:Int)<xs.length:=om;have HNO:=lh (HI.out.none_ (by rw[stsOf_len];omega))
   go_wp2_with fail
   go_ret2
   exact⟨none,0,[],false,rfl,IL.nil _,eG.trans x1,fun h=>(by cases h),fun _=>⟨rfl,HNO.out⟩⟩
end
end Go.Proofs.YtmocoldobnimfaaGreat
