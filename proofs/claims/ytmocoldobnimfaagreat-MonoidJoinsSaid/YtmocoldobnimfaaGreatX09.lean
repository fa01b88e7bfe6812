/- Texts of this proof: K2 K14 J2. -/
import Derived.Test.YtmocoldobnimfaaGreatX06
import Derived.Test.YtmocoldobnimfaaGreatX07
set_option linter.all false
set_option maxRecDepth 100000
set_option maxHeartbeats 16000000
namespace Go.Proofs.YtmocoldobnimfaaGreat
section
open Go.RowKit
attribute [local go_sem ↓] Go.wp_at_zero Go.wp_at_succ
theorem isD_get {hs:List Hin}{p:Nat}(h:p<hs.length):isD (insL hs) p=decide (hs[p].op=0):=by
 unfold isD;rw[insL_get h];rfl
theorem castL_get {l:List Nat}{k:Nat}(h:k<l.length):(castL l)[k]'(by rw[castL_len];exact h)=(l[k]:Int):=by simp[castL]
def blkO (A:Option Addr):List Nat:=(A.map (·.block)).toList
theorem blkO_mem {A:Option Addr}{b:Nat}:b∈blkO A↔A.map (·.block)=some b:=by unfold blkO;simp
theorem Kp.thenQ {L:List Nat}{p:Nat→Prop}{a b c:World}(h:Kp L a b)(k:KpP p b c)(hp:∀i,p i→i∈L∨a.heap.size≤i):Kp L a c:=
 ⟨k.os.trans h.os,k.tape.trans h.tape,k.output.trans h.output,Nat.le_trans h.size k.size,fun i hi hn=>(k.block i (Nat.lt_of_lt_of_le hi h.size) (fun hm=>by
  rcases hp i hm with h1|h1
  ·exact hn h1
  ·omega)).trans (h.block i hi hn)⟩
structure StI (a0:World)(G:List Ins)(r:List Nat×List Nat)(A:Option Addr)(c:Nat)(B:Option Addr)(d:Nat)(w:World):Prop where
 l:OwnI w a0.heap.size 3 A c (castL r.1)
 s:OwnI w a0.heap.size 3 B d (castL r.2)
 ap:∀b,A.map (·.block)=some b→B.map (·.block)≠some b
 ok:SeenOk G.length r.2
 len:r.1.length≤r.2.length
end
section
open Go.RowKit
theorem infoI64k:(Tryz.prog.info? 3).map (fun i=>(i.zero,i.size,i.bytes))=some (some (.int .i64 0),1,8):=by kernel_rfl
theorem eqI64k (a b:Int)(n:Nat)(w:World):(Op.equalIn (n+1) 3 (.int .i64 a) (.int .i64 b)).run Tryz.prog w=.ok (a == b) w:=by
 have u3:=Tryz.underlying3;unfold Op.equalIn;go_simp
theorem part2k (a b:Int)(w:World):(part 3 #[.int .i64 a,.int .i64 b] (0*1)).run Tryz.prog w=.ok (.int .i64 a) w∧(part 3 #[.int .i64 a,.int .i64 b] (1*1)).run Tryz.prog w=.ok (.int .i64 b) w:=by
 unfold part;constructor<;>go_simp
theorem eqArr2 (a b c d:Int)(w:World):(Op.equalIn 10000 82 (.agg #[.int .i64 a,.int .i64 b]) (.agg #[.int .i64 c,.int .i64 d])).run Tryz.prog w=.ok (a == c&&b == d) w:=by
 obtain⟨i0,hi0,_⟩:=info_parts infoI64k;have hu:Tryz.prog.underlying 82=some (.array 2 3):=by kernel_rfl
 have hc:Tryz.prog.cellsOf 3=1:=by kernel_rfl
 rw[show(10000:Nat)=9999+1 from rfl,run_equalIn_array w 9999 _ _ hu hi0,hc,show(9999:Nat)=9998+1 from rfl]
 show(Op.eqItems (9998+1) 3 1 _ _ [0,1]).run _ _=_
 unfold Op.eqItems;simp only[Sem.run_bind,(part2k a b w).1,(part2k c d w).1,eqI64k,Result.andThen_ok];by_cases h1:a=c
 ·subst h1;simp only[beq_self_eq_true,Bool.not_true,Bool.false_eq_true,if_false,Bool.true_and];unfold Op.eqItems;simp only[Sem.run_bind,(part2k a b w).2,(part2k a d w).2,eqI64k,Result.andThen_ok];by_cases h2:b=d
  ·subst h2;simp[Op.eqItems]
  ·have:(b == d)=false:=by simpa using h2
   simp[this]
 ·have:(a == c)=false:=by simpa using h1
  simp[this]
theorem sameSpans_any (A B:Option Addr)(c d:Nat)(a b:List Sp)(w:World)(ha:SL w A c a)(hb:SL w B d b):Calls Tryz.prog 32 #[.slice A a.length c,.slice B b.length d] w (RetV (.bool (decide (a=b))) w):=by
 have hla:=ha.len;have hlb:=hb.len;have HQ:=fun(x y z u:Int) (W:World)=>eqArr2 x y z u W;by_cases hl:a.length=b.length
 ·have HT:=fun h=>lh (eq_of_all hl h);have HF:=fun j h1 h2 h=>lh (ne_of_one (a:=a) (b:=b) (j:=j) h1 h2 h);generalize decide (a=b)=r at *;have hne:((a.length:Int) != (b.length:Int))=false:=by simp[hl]
  have HL:=lh hl;clear hl;go_enter Tryz.func32,Tryz.ntmps32
  go_wp2_with fail
  go_loopw [5] (fun v wr=>∃i:Nat,v=.int .i64 i∧i≤a.length∧Hid (∀j (h1:j<a.length) (h2:j<b.length),j<i→a[j]=b[j])∧Ext w wr) (fun v _=>a.length-(intOf v).toNat)
  case atStart=>exact⟨0,rfl,om,fun j _ _ hj=>absurd hj (Nat.not_lt_zero _),Ext.rfl' _⟩
  case round=>
   obtain⟨i,rfl,hi,HI,x1⟩:=hrel;by_cases hlt:i<a.length
   ·have hlt2:i<b.length:=by have:=HL.out;omega
    obtain⟨b1,o1,rfl,g1,g2⟩:=(ha.ext x1).get hlt;obtain⟨b2,o2,rfl,g3,g4⟩:=(hb.ext x1).get hlt2;have hI:(i:Int)<a.length:=om;have hI2:(i:Int)<b.length:=om;have HI2:=lh (show a[i]=b[i]→∀j (h1:j<a.length) (h2:j<b.length),j<i+1→a[j]=b[j] from fun hn j h1 h2 hji=>by
     rcases Nat.lt_or_ge j i with h3|h3
     ·exact HI.out j h1 h2 h3
     ·have:j=i:=om;subst this;exact hn)
    have HF2:=HF i hlt hlt2;generalize a[i]=s at *;generalize b[i]=t at *;obtain⟨s1,s2⟩:=s;obtain⟨t1,t2⟩:=t
    simp only at g1 g2 g3 g4 HI2 HF2
    have k1:=kc0 g1;have k2:=kc0 g2;have k3:=kc0 g3;have k4:=kc0 g4;have HEQ:=eqArr2 s1 s2 t1 t2;by_cases he:s1=t1∧s2=t2
    ·obtain⟨rfl,rfl⟩:=he;have HI3:=lh (HI2.out rfl);simp only[beq_self_eq_true,Bool.and_self] at HEQ;clear HI2 HF2 HI HT HF HQ
     go_upto_region 6 with fail
     refine Xr.start [] kr ?_;refine Xtk 0 ?_
     iterate 8(refine Xtn ?_)
     refine Xdn fun w2 hE2 hK2=>?_;have x3:=x1.trans hK2.nil;clear k1 k2 k3 k4 hE2 hK2 HEQ g1 g2 g3 g4
     go_wp2_with fail
     go_roundw
     case rel=>exact⟨i+1,by go_num,om,HI3,x3⟩
     case measure=>simp[intOf];omega
    ·have HR:=HF2 (fun e=>he (by injection e with e1 e2;exact⟨e1,e2⟩));have hbe:(s1 == t1&&s2 == t2)=false:=by
      rw[Bool.eq_false_iff];intro h;simp at h;exact he h
     rw[hbe] at HEQ;clear HI2 HF2 HI HT HF HQ hbe he
     go_upto_region 6 with fail
     refine Xr.start [] kr ?_;refine Xtk 0 ?_
     iterate 8(refine Xtn ?_)
     refine Xdn fun w2 hE2 hK2=>?_;have x3:=x1.trans hK2.nil;clear k1 k2 k3 k4 hE2 hK2 HEQ g1 g2 g3 g4
     go_wp2_with fail
     go_ret
     exact⟨by rw[HR.out];rfl,x3⟩
   ·have hI:¬(i:Int)<a.length:=om;have HR:=HT (fun j h1 h2=>HI.out j h1 h2 om);clear HT HF HI HQ
    go_wp2_with fail
    go_ret
    exact⟨by rw[HR.out];rfl,x1⟩
 ·have HR:=lh (ne_of_len hl);generalize decide (a=b)=r at *;have hne:((a.length:Int) != (b.length:Int))=true:=by simp;omega
  clear hl HQ;go_enter Tryz.func32,Tryz.ntmps32
  go_wp2_with fail
  go_ret
  exact⟨by rw[HR.out];rfl,Ext.rfl' _⟩
end
section
open Go.RowKit
def mkC (A:Option Addr)(n c:Nat)(at_ uses left caps:Int):Array Value:=#[.slice A n c,.int .i64 at_,.int .i64 uses,.int .i64 left,.int .i64 caps]
structure MkM (w w0:World)(gm:Nat)(A:Option Addr)(c:Nat)(ls:List Int)(uses B:Int):Prop where
 ext:Ext w0 w
 il:IL w0 A c ls
 lo:w0.heap.size≤gm
 blk:∃(at_:Nat) (left caps:Int),Blk w gm 251 (mkC A ls.length c at_ uses left caps)∧(at_:Int)≤B∧-B≤left∧left≤1000∧0≤caps∧caps≤4
theorem MkM.extW {w w' w0:World}{gm:Nat}{A:Option Addr}{c:Nat}{ls:List Int}{uses B:Int}(h:MkM w w0 gm A c ls uses B)(x:Ext w w'):MkM w' w0 gm A c ls uses B:=by
 obtain⟨h1,h2,h3,at_,left,caps,h4,h5⟩:=h;exact⟨h1.trans x,h2,h3,at_,left,caps,h4.ext x,h5⟩
theorem MkM.mono {w w0:World}{gm:Nat}{A:Option Addr}{c:Nat}{ls:List Int}{uses B B':Int}(h:MkM w w0 gm A c ls uses B)(hB:B≤B'):MkM w w0 gm A c ls uses B':=by
 obtain⟨h1,h2,h3,at_,left,caps,h4,h5,h6,h7⟩:=h;exact⟨h1,h2,h3,at_,left,caps,h4,om,om,h7⟩
theorem MkM.kpR {w w' w0:World}{gm g:Nat}{A:Option Addr}{c:Nat}{ls:List Int}{uses B:Int}(h:MkM w w0 gm A c ls uses B)(k:KpP (·=g) w w')(hg:gm≠g)(h0:w0.heap.size≤g):MkM w' w0 gm A c ls uses B:=by
 obtain⟨h1,h2,h3,at_,left,caps,h4,h5⟩:=h;exact⟨h1.kp k (fun i hi=>hi▸h0),h2,h3,at_,left,caps,k.blk h4 hg,h5⟩
theorem pick_bd (l:List Int)(i:Nat)(m:Int)(h:1≤m):0≤pick l i m∧pick l i m<m:=by
 unfold pick
 split
 ·exact around_bd _ _ h
 ·omega
def RetNx (w0:World)(gm:Nat)(A:Option Addr)(c:Nat)(ls:List Int)(uses B n:Int)(w:World)(e:Ending)(w':World):Prop:=
 ∃v:Int,e=.returned (.int .i64 v)∧0≤v∧v<n∧MkM w' w0 gm A c ls uses B∧KpP (·=gm) w w'
def RetNxE (w0:World)(gm:Nat)(A:Option Addr)(n c:Nat)(at_ uses left caps v:Int)(w:World)(e:Ending)(w':World):Prop:=
 e=.returned (.int .i64 v)∧Blk w' gm 251 (mkC A n c at_ uses left caps)∧Ext w0 w'∧KpP (·=gm) w w'
theorem ynext_at (w0 w:World)(gm:Nat)(A:Option Addr)(c:Nat)(ls:List Int)(uses n:Int)(x0:Ext w0 w)(il:IL w0 A c ls)(lo:w0.heap.size≤gm)(at_:Nat)(left caps:Int)(hb:Blk w gm 251 (mkC A ls.length c at_ uses left caps))(hat:(at_:Int)≤100000000)
 (h0:1≤n) (h1:n≤1000) :
 Calls Tryz.prog 184 #[.pointer (some ⟨gm,0,none⟩),.int .i64 n] w (RetNxE w0 gm A ls.length c ((at_:Int)+1) uses left caps (pick ls at_ n) w):=by
 have c1:w.cell? ⟨gm,1,none⟩=some (.int .i64 at_):=hb.cell 1;have f1:=hb.frz 1;have ewp:IntKind.i64.wrap ((at_:Int)+1)=(at_:Int)+1:=wj;have hll:=il.len;go_enter Tryz.func184,Tryz.ntmps184
 go_upto_region 2 with fail
 have K2:KpP (·=gm) w (w.setCell ⟨gm,1,none⟩ (.int .i64 ((at_:Int)+1))):=KpP.set (p:=(·=gm)) (x:=⟨gm,1,none⟩) (KpP.refl _ _) (.inl rfl) _;have X2:Ext w0 (w.setCell ⟨gm,1,none⟩ (.int .i64 ((at_:Int)+1))):=x0.setNew (p:=⟨gm,1,none⟩) lo _;have b2:=hb.set 1 (.int .i64 ((at_:Int)+1));generalize w.setCell ⟨gm,1,none⟩ (.int .i64 ((at_:Int)+1))=w2 at *;have d0:w2.cell? ⟨gm,0,none⟩=some (.slice A ls.length c):=b2.cell 0;have d1:w2.cell? ⟨gm,1,none⟩=some (.int .i64 ((at_:Int)+1)):=b2.cell 1;have ewm:IntKind.i64.wrap ((at_:Int)+1-1)=(at_:Int):=wj;have HI:=lh (il.ext X2);have HB2:=lh b2;clear b2 c1 f1 hb
 go_wp2_with (go_quiet (first|(go_at_call 37;refine Calls.quiet_of (pick_any A c ls at_ n _ (HI.out.ext (Ext.drewN _ _)) h0 om om))))
 go_ret
 refine⟨rfl,?_,X2.trans (Ext.drewN _ _),K2.trans (KpP.of_ext (Ext.drewN _ _))⟩;have b:=HB2.out.ext (Ext.drewN w2 nq)
 simpa[mkC] using b
theorem ynext_any (w0 w:World)(gm:Nat)(A:Option Addr)(c:Nat)(ls:List Int)(uses B n:Int)(h:MkM w w0 gm A c ls uses B)(hB:B≤100000000)(h0:1≤n)(h1:n≤1000) :
 Calls Tryz.prog 184 #[.pointer (some ⟨gm,0,none⟩),.int .i64 n] w (RetNx w0 gm A c ls uses (B+1) n w):=by
 obtain⟨x0,il,lo,at_,left,caps,hb,hat,hl1,hl2,hc1,hc2⟩:=h;refine(ynext_at w0 w gm A c ls uses n x0 il lo at_ left caps hb om h0 h1).mono ?_;rintro e w' ⟨h1,h2,h3,h4⟩;have hp:=pick_bd ls at_ n h0;exact⟨_,h1,hp.1,hp.2,⟨h3,il,lo,at_+1,left,caps,by simpa using h2,om,om,om,om,om⟩,h4⟩
end
end Go.Proofs.YtmocoldobnimfaaGreat
