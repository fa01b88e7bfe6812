/- Texts of this proof: E6 E7 E8 E9 Dk D1 E15 E16 E10 P4 C0. -/
import Derived.Test.YtmpcoifnpflapaaGreatER09
import Derived.Deep.RegionHeld3
import Derived.Deep.DrawnRows
import Derived.Deep.CutRange
import Derived.Deep.DeepCutAuto
import Derived.Maps.RangeWalk
import Derived.Maps.OwnSet
import Derived.Laws.StructEq
import Derived.KernelRfl
import Derived.Outline
set_option linter.all false
set_option maxRecDepth 100000
set_option maxHeartbeats 4000000
namespace Go.Proofs.YtmpcoifnpflapaaGreat
section
open Go.RowKit
theorem rText_any (A:Option Addr)(c:Nat)(l:List Int)(m:Nat)(w:World)(hl:IL w A c l)(hm:m<=1000000) :
 Calls Tryz.prog 14 #[.slice A l.length c,.int .i64 m] w (RetIL (rtext l m) w):=
 (rTextO_any A c l m w hl hm).mono (fun _ _ ⟨A',c',h1,ho,hr,x⟩=>⟨A',c',h1,IL.of_own ho hr,x,OwnS.row ho⟩)
structure Ed where
 at_:Int
 del:Int
 ins:List Int
def redit (size n m:Int):Ed:=
 { at_:=around n 1048576 % (size+1), del:=if around n 1048576 % 7=0 then size-around n 1048576 % (size+1) else (if around n 1048576 / 64 % 4<size-around n 1048576 % (size+1) then around n 1048576 / 64 % 4 else size-around n 1048576 % (size+1)), ins:=rtext [around m 1048576,around m 1048576 / 12,around m 1048576 / 144] (around m 1048576 % 4).toNat }
def RetEdF (e:Ed)(w:World)(r:Ending)(w':World):Prop:=
 ∃A c,r=.returned (.agg #[.int .i64 e.at_,.int .i64 e.del,.slice A e.ins.length c])/\IL w' A c e.ins/\Ext w w'/\Fr w A
theorem redit_bd (size n m:Int)(h:0<=size):0<=(redit size n m).at_/\0<=(redit size n m).del/\(redit size n m).at_+(redit size n m).del<=size:=by
 have h1:=around_bd n 1048576 om;have h2:0<=around n 1048576 % (size+1):=Int.emod_nonneg _ om;have h3:around n 1048576 % (size+1)<size+1:=Int.emod_lt_of_pos _ om;simp only[redit];generalize around n 1048576 % (size+1)=a at *;refine⟨h2,?_,?_⟩<;>(split<;>(try split)<;>omega)
theorem redit_eq {size n m k j:Int}(hk:around n 1048576=k)(hj:around m 1048576=j)(q:Nat)(hq:j % 4=(q:Int))(dv:Int)
 (hd:dv=if k % 7=0 then size-k % (size+1) else(if k / 64 % 4<size-k % (size+1) then k / 64 % 4 else size-k % (size+1))) :
 (redit size n m).at_=k % (size+1)/\(redit size n m).del=dv/\(redit size n m).ins=rtext [j,j / 12,j / 144] q:=by
 subst hk hj hd;refine⟨rfl,rfl,?_⟩;simp only[redit,hq,Int.toNat_natCast]
theorem rEdit_any (size:Nat)(n m:Int)(w:World)(hs:size<=1000000)(hn:I64 n)(hm:I64 m) :
 Calls Tryz.prog 76 #[.int .i64 size,.int .i64 n,.int .i64 m] w (RetEdF (redit size n m) w):=by
 have hk:=around_bd n 1048576 om;have hj:=around_bd m 1048576 om;have EK:=@redit_eq size n m;generalize hk1:around n 1048576=k at *;generalize hj1:around m 1048576=j at *;obtain⟨q,hq⟩:∃q:Nat,j % 4=(q:Int):=⟨(j % 4).toNat,om⟩;replace EK:=lh (EK rfl rfl q hq);have hq4:q<4:=om;have HK:=lh hk1;have HJ:=lh hj1;have HQ:=lh hq;clear hk1 hj1 hq;have h2:0<=k % ((size:Int)+1):=Int.emod_nonneg _ om;have h3:k % ((size:Int)+1)<(size:Int)+1:=Int.emod_lt_of_pos _ om;have hIL:∀W g,Blk W g 3 #[.int .i64 j,.int .i64 (j / 12),.int .i64 (j / 144)]->IL W (some ⟨g,0,none⟩) 3 [j,j / 12,j / 144]:=fun W g h=>
  IL.of_blk (xs:=[j,j / 12,j / 144]) h (by intro x hx;simp at hx;rcases hx with rfl|rfl|rfl<;>exact I64_of om) (by simp[maxLen])
 go_enter Tryz.func76,Tryz.ntmps76
 go_wp2_with fail
 refine(around_any _ _ _ hn om om).mono ?_;rintro e w1 h1;obtain⟨rfl,hx1⟩:=h1.v;rw[HK.out]
 go_wp2_with fail
 refine(around_any _ _ _ hm om om).mono ?_;rintro e w2 h1;obtain⟨rfl,hx2⟩:=h1.v;rw[HJ.out];have b6:=((Blk.new w 55 #[.int .i64 0,.int .i64 0,.slice none 0 0]).ext hx1).ext hx2;have X2:=((Ext.alloc w (.cells #[.int .i64 0,.int .i64 0,.slice none 0 0] 55)).trans hx1).trans hx2;clear h1 hx1 hx2
 go_wp2_with fail
 all_goals
  rw[HQ.out];refine(rText_any _ 3 [j,j / 12,j / 144] q _ ?_ om).mono ?_
  ·exact hIL _ _ (by simpa using Blk.new (w2.alloc _) 3 #[.int .i64 j,.int .i64 (j / 12),.int .i64 (j / 144)])
  rintro e w3 ⟨A,c,rfl,hil,hx3,hfr⟩;have X3:=((Ext.alloc _ _).trans (Ext.alloc _ _)).trans hx3;obtain⟨p0,p1,p2,q0,q1,q2,hz6⟩:=(b6.ext X3).c3;obtain⟨r0,r1,r2,s0,s1,s2,hz10⟩:=(((Blk.new w2 _ _).alloc _).ext hx3).c3;have hzz:=b6.lt;have hdv:∃dv,w3.cell? ⟨w2.heap.size,1,none⟩=some (.int .i64 dv)/\(redit size n m).del=dv:=by
   refine⟨_,r1,?_⟩
   rw[(EK.out _ rfl).2.1];simp only[beq_iff_eq,beq_eq_false_iff_ne,ne_eq] at *
   split<;>(try split)<;>omega
  obtain⟨dv,r1',hdv⟩:=hdv;rw[r1] at r1';simp only[Option.some.injEq,Value.int.injEq,true_and] at r1';rw[r1'] at r1;have hfin:RetEdF (redit size n m) w (.returned (.agg #[.int .i64 (k % (size+1)),.int .i64 dv,.slice A (rtext [j,j / 12,j / 144] q).length c]))=RetEdF (redit size n m) w (.returned (.agg #[.int .i64 (redit size n m).at_,.int .i64 (redit size n m).del,.slice A (redit size n m).ins.length c])):=by
   rw[(EK.out _ rfl).1,hdv,(EK.out _ rfl).2.2]
  have hil':IL w3 A c (redit size n m).ins:=by rw[(EK.out _ rfl).2.2];exact hil
  replace r1':=lh r1';replace hdv:=lh hdv;replace hfin:=lh hfin;have hEE:=X2.trans X3
  go_wp2
  refine bodyPost_ret (v:=.agg #[.int .i64 (k % (size+1)),.int .i64 dv,.slice A (rtext [j,j / 12,j / 144] q).length c]) (by simp[results,Tryz.results76,go_sem,p0,p1,p2]) rfl ?_;rw[hfin.out];have hfr2:Fr w2 A:=hfr.mono ((Ext.alloc _ _).trans (Ext.alloc _ _));have n1:A.map (·.block)≠some w.heap.size:=fun e=>by have:=hfr2 _ e;omega
  have n2:A.map (·.block)≠some w2.heap.size:=fun e=>by have:=hfr _ e;simp at this;omega
  refine⟨A,c,rfl,?_,?_,hfr2.mono X2⟩
  ·exact(((hil'.set (p:=⟨w2.heap.size,2,none⟩) n2 _).set (p:=⟨w.heap.size,0,none⟩) n1 _).set (p:=⟨w.heap.size,1,none⟩) n1 _).set (p:=⟨w.heap.size,2,none⟩) n1 _
  ·exact(((hEE.setNew (by simp;omega) _).setNew si _).setNew si _).setNew si _
theorem rMove_any (a d a' d':Int)(A B:Option Addr)(c m c':Nat)(n:Nat)(w:World)(h1:0<=a/\0<=d/\a+d<=288230376151711744)(h2:0<=a'/\0<=d'/\a'+d'<=288230376151711744)(hn:n<=288230376151711744) :
 Calls Tryz.prog 143 #[.agg #[.int .i64 a,.int .i64 d,.slice A m c],.agg #[.int .i64 a',.int .i64 d',.slice B n c']] w
  (RetV (.agg #[.int .i64 (overOne (a,d) (a',d',n)).1,.int .i64 (overOne (a,d) (a',d',n)).2,.slice A m c]) w):=by
 have hb:=beginM_bd (p:=a) (a:=a') (d:=d') (n:=n) (B:=n) h1.1 h2.1 h2.2.1 om om;have he:=endM_bd (p:=a+d) (a:=a') (d:=d') (n:=n) (B:=n) h2.1 h2.2.1 om om om;have e1:(overOne (a,d) (a',d',n)).1=beginM a a' d' n:=rfl;have e2:(overOne (a,d) (a',d',n)).2=if 0<d then(if endM (a+d) a' d' n-beginM a a' d' n<0 then 0 else endM (a+d) a' d' n-beginM a a' d' n) else 0:=rfl
 rw[e1,e2];clear e1 e2;generalize hq:beginM a a' d' n=q at *;generalize hr:endM (a+d) a' d' n=r at *;have HQ:=lh hq;have HR:=lh hr;clear hq hr;obtain⟨B2,B3,B4,X⟩:=alloc3 w 55 #[.int .i64 a,.int .i64 d,.slice A m c] 55 #[.int .i64 a',.int .i64 d',.slice B n c'] 55 #[.int .i64 0,.int .i64 0,.slice none 0 0];by_cases hd:0<d
 ·rw[if_pos hd];generalize hx:(if r-q<0 then 0 else r-q)=x;have HX:=lh hx;clear hx;go_enter Tryz.func143,Tryz.ntmps143
  go_wp2_with fail
  refine(rbegin_any _ _ _ _ _ _ _ ⟨om,om⟩ ⟨om,om⟩ ⟨om,om⟩ ⟨om,om⟩).mono ?_;rintro e w1 ⟨rfl,hx1⟩;rw[HQ.out];obtain⟨p0,p1,p2,_,_,_,hz2⟩:=(B2.ext hx1).c3;obtain⟨q0,q1,q2,_,_,_,hz3⟩:=(B3.ext hx1).c3;replace B4:=B4.ext hx1;replace B2:=B2.ext hx1;have X1:=X.trans hx1;clear B3 X hx1
  go_wp2_with fail
  refine(rend_any _ _ _ _ _ _ _ ⟨om,om⟩ ⟨om,om⟩ ⟨om,om⟩ ⟨om,om⟩).mono ?_;rintro e w2 ⟨rfl,hx2⟩;rw[HR.out];clear p0 p1 p2 hz2 q0 q1 q2 hz3;obtain⟨p0,p1,p2,_,_,_,hz2⟩:=(B2.ext hx2).c3;obtain⟨r0,r1,r2,s0,s1,s2,hz4⟩:=(B4.ext hx2).c3;have X2:=X1.trans hx2;clear hx2 X1 B2 B4
  go_wp2
  all_goals exact bodyPost_ret (v:=.agg #[.int .i64 q,.int .i64 x,.slice A m c]) (by have hx:=HX.out;simp[results,Tryz.results143,go_sem,r0,r1,r2];split at hx<;>omega) rfl ⟨rfl,((X2.setNew (by simp;omega) _).setNew (by simp;omega) _).setNew (by simp;omega) _⟩
 ·rw[if_neg hd];go_enter Tryz.func143,Tryz.ntmps143
  go_wp2_with fail
  refine(rbegin_any _ _ _ _ _ _ _ ⟨om,om⟩ ⟨om,om⟩ ⟨om,om⟩ ⟨om,om⟩).mono ?_;rintro e w1 ⟨rfl,hx1⟩;rw[HQ.out];obtain⟨p0,p1,p2,_,_,_,hz2⟩:=(B2.ext hx1).c3;obtain⟨r0,r1,r2,s0,s1,s2,hz4⟩:=(B4.ext hx1).c3;have X2:=X.trans hx1;clear B3 X hx1 B2 B4
  go_wp2
  exact bodyPost_ret (v:=.agg #[.int .i64 q,.int .i64 0,.slice A m c]) (by simp[results,Tryz.results143,go_sem,r0,r1,r2]) rfl ⟨rfl,((X2.setNew (by simp;omega) _).setNew (by simp;omega) _).setNew (by simp;omega) _⟩
end
section
open Go.RowKit
attribute [local go_sem ↓] Go.wp_at_zero Go.wp_at_succ
def RetEdE (e:Ed)(err:Int)(w:World)(r:Ending)(w':World):Prop:=
 ∃A c,r=.returned (.tuple #[.agg #[.int .i64 e.at_,.int .i64 e.del,.slice A e.ins.length c],.int .i64 err])/\IL w' A c e.ins/\Ext w w'/\Fr w A
theorem formed_t {a d:Int}{l:List Int}(h:formed a d l=true):0<=a/\a<=65536/\0<=d/\d<=65536/\l.length<=65536/\∀x∈l,0<=x/\x<=1114111:=by
 simp only[formed,Bool.and_eq_true] at h;have h1:=formedN_t h.1;have h2:=h.2;rw[List.all_eq_true] at h2;exact⟨h1.1,h1.2.1,h1.2.2.1,h1.2.2.2.1,h1.2.2.2.2,fun x hx=>symOk_t (h2 x hx)⟩
def movedE (e o:Ed):Ed:=⟨(overOne (e.at_,e.del) (o.at_,o.del,o.ins.length)).1,(overOne (e.at_,e.del) (o.at_,o.del,o.ins.length)).2,e.ins⟩
theorem XL.one {w:World}{g T:Nat}{x y z:Int}(h:Blk w g T #[.int .i64 x,.int .i64 y,.int .i64 z]):XL w (some ⟨g,0,none⟩) 1 [(x,y,z)]:=
 ⟨by simp,by simp[maxLen],fun _=>⟨g,0,rfl,fun i hi=>by
  have:i=0:=by simpa using hi
  subst this;exact⟨h.cell 0,h.cell 1,h.cell 2⟩⟩⟩
theorem move_ok (e o:Ed)(A B:Option Addr)(c c':Nat)(w:World)(hl:IL w A c e.ins)(hl':IL w B c' o.ins)(h1:formed e.at_ e.del e.ins=true)(h2:formed o.at_ o.del o.ins=true) :
 Calls Tryz.prog 95 #[.agg #[.int .i64 e.at_,.int .i64 e.del,.slice A e.ins.length c],.agg #[.int .i64 o.at_,.int .i64 o.del,.slice B o.ins.length c']] w (RetEdE (movedE e o) 0 w):=by
 obtain⟨a,d,l⟩:=e;obtain⟨a',d',l'⟩:=o
 simp only at *
 obtain⟨B2,B3,B4,X⟩:=alloc3 w 55 #[.int .i64 a,.int .i64 d,.slice A l.length c] 55 #[.int .i64 a',.int .i64 d',.slice B l'.length c'] 55 #[.int .i64 0,.int .i64 0,.slice none 0 0];have f1:=formed_t h1;have f2:=formed_t h2;have H1:=lh h1;have H2:=lh h2;clear h1 h2;go_enter Tryz.func95,Tryz.ntmps95
 go_wp2_with fail
 refine(wellFormed_any _ _ _ _ _ _ (hl.ext X)).mono ?_;rintro e w1 ⟨rfl,hx1⟩;rw[H1.out];obtain⟨q0,q1,q2,_,_,_,hz3⟩:=(B3.ext hx1).c3
 go_wp2_with fail
 refine(wellFormed_any _ _ _ _ _ _ (hl'.ext (X.trans hx1))).mono ?_;rintro e w2 ⟨rfl,hx2⟩;rw[H2.out];replace X:=(X.trans hx1).trans hx2;replace B2:=(B2.ext hx1).ext hx2;replace B3:=(B3.ext hx1).ext hx2;replace B4:=(B4.ext hx1).ext hx2;clear q0 q1 q2 hx1 hx2 hz3;obtain⟨p0,p1,p2,_,_,_,hz2⟩:=B2.c3;obtain⟨q0,q1,q2,_,_,_,hz3⟩:=B3.c3;have hz4:=B4.lt;have kp0:=kc0 p0;have kp1:=kc0 p1;have kp2:=kc0 p2;have kq0:=kc0 q0;have kq1:=kc0 q1;have kq2:=kc0 q2
 go_wp2_with fail
 refine Xr.start [] kr ?_
 repeat(first|(refine Xr.take 0 (some 16) (v:=?_) rfl rfl dK (by rfl) ?_ ?_;rotate_left;(focus(intro w' hk;go_simp;(try with_reducible rfl);done));(try simp only[Act.put,List.setIfInBounds_toArray,List.set_cons_zero,List.set_cons_succ]))|(refine Xr.take 2 (some 18) (v:=?_) rfl rfl dK (by rfl) ?_ ?_;rotate_left;(focus(intro w' hk;go_simp;(try with_reducible rfl);done));(try simp only[Act.put,List.setIfInBounds_toArray,List.set_cons_zero,List.set_cons_succ])))
 refine Xr.lazy 6 6 7 (fun g=>.pointer (some ⟨g,0,none⟩)) 179 #[.int .i64 0,.int .i64 0,.int .i64 0] rfl si dK si (fun w'=>by go_simp) ?_;refine Xcl 1 fun w3 hE3 hK3 K hKK=>?_;go_simp;refine(extentOf_any _ _ _ _ _ _ ⟨om,om⟩).mono ?_;rintro e w4 ⟨rfl,hx⟩;refine hKK _ _ hx ?_;clear hKK;refine ptm ?_;refine Xcl 3 fun w5 hE5 hK5 K hKK=>?_;go_simp;refine(extentOf_any _ _ _ _ _ _ ⟨om,om⟩).mono ?_;rintro e w6 ⟨rfl,hx6⟩;refine hKK _ _ hx6 ?_;clear hKK;refine ptm ?_;have s1:=hE3.size;have s2:=hx.size;have s3:=hE5.size;have s4:=hx6.size;refine Xr.lazy 4 20 5 (fun g=>.slice (some ⟨g,0,none⟩) 1 1) 179 #[.int .i64 a',.int .i64 d',.int .i64 l'.length] rfl si dK (by simp;omega) (fun w'=>by go_simp) ?_;refine Xr.stepZ rfl dK (fun _=>by rfl) (fun w7 g5 hE7 hK7 hg5 hB5 _ K hKK=>?_);refine ptm ?_;go_simp;refine(over_any _ _ _ _ _ [(a',d',(l'.length:Int))] _ (XL.one hB5) 65536 om om ⟨om,om⟩ (by simp;omega) (by simp;omega)).mono ?_;rintro e w8 ⟨rfl,hx8⟩;refine hKK _ _ (WI_ext hx8) (hK7.ext hx8) ?_;clear hKK;refine ptm ?_;refine Xr.stepZ rfl dK (fun _=>by rfl) (fun w9 g hE9 hK9 hg hB _ K hKK=>?_);refine ptm ?_;have m0:=(Blk.c3 hB).1;have m1:=(Blk.c3 hB).2.1;have m2:=(Blk.c3 hB).2.2.1;have m0f:=(Blk.c3 hB).2.2.2.1;have m1f:=(Blk.c3 hB).2.2.2.2.1;have m2f:=(Blk.c3 hB).2.2.2.2.2.1;have mz:=(Blk.c3 hB).2.2.2.2.2.2;go_simp;refine hKK _ _ (WI_set (WI_set (WI_set (WI_refl _ _ _) _ _) _ _) _ _) (((hK9.setN hg _ _).setN hg _ _).setN hg _ _) ?_;clear hKK;refine ptm ?_;refine Xdn fun w10 hE10 hK10=>?_;have hgb:=(((hB.set 0 (.int .i64 (overAll (a,d) [(a',d',(l'.length:Int))]).1)).set 1 (.int .i64 (overAll (a,d) [(a',d',(l'.length:Int))]).2)).set 2 (.int .i64 l.length)).ext hE10
 replace X:=X.trans hK10.nil;replace B2:=B2.ext hK10.nil;replace B4:=B4.ext hK10.nil;clear kp0 kp1 kp2 kq0 kq1 kq2 m0 m1 m2 m0f m1f m2f mz hB B3 p0 p1 p2 q0 q1 q2;simp only[List.setIfInBounds_toArray,List.set_cons_zero,List.set_cons_succ] at hgb;have hov:overAll (a,d) [(a',d',(l'.length:Int))]=overOne (a,d) (a',d',l'.length):=rfl;rw[hov] at hgb;rw[hov];have hgne:g≠w.heap.size+1+1:=om;generalize hoo:overOne (a,d) (a',d',(l'.length:Int))=oo at *;obtain⟨o1,o2⟩:=oo;have HOO:=lh hoo;clear hoo hov;have kg0:=fun(w':World) (h:Kp [w.heap.size+1+1] w10 w')=>h.cell (hgb.cell 0) (by simpa using hgne);have kg1:=fun(w':World) (h:Kp [w.heap.size+1+1] w10 w')=>h.cell (hgb.cell 1) (by simpa using hgne);have kp2:=fun(w':World) (h:Kp [w.heap.size+1+1] w10 w')=>h.cell (B2.cell 2) (by simp;omega)
 go_wp2_with fail
 refine Xr.start [w.heap.size+1+1] kr ?_
 repeat(first|(refine Xr.take 0 (some 22) (v:=?_) rfl rfl dK (by rfl) ?_ ?_;rotate_left;(focus(intro w' hk;go_simp;(try with_reducible rfl);done));(try simp only[Act.put,List.setIfInBounds_toArray,List.set_cons_zero,List.set_cons_succ]))|(refine Xr.take 1 (some 23) (v:=?_) rfl rfl dK (by rfl) ?_ ?_;rotate_left;(focus(intro w' hk;go_simp;(try with_reducible rfl);done));(try simp only[Act.put,List.setIfInBounds_toArray,List.set_cons_zero,List.set_cons_succ]))|(refine Xr.take 2 (some 24) (v:=?_) rfl rfl dK (by rfl) ?_ ?_;rotate_left;(focus(intro w' hk;go_simp;(try with_reducible rfl);done));(try simp only[Act.put,List.setIfInBounds_toArray,List.set_cons_zero,List.set_cons_succ]))|(refine Xr.take 3 (some 25) (v:=?_) rfl rfl dK (by rfl) ?_ ?_;rotate_left;(focus(intro w' hk;go_simp;(try with_reducible rfl);done));(try simp only[Act.put,List.setIfInBounds_toArray,List.set_cons_zero,List.set_cons_succ]))|(refine Xr.take 4 (some 26) (v:=?_) rfl rfl dK (by rfl) ?_ ?_;rotate_left;(focus(intro w' hk;go_simp;(try with_reducible rfl);done));(try simp only[Act.put,List.setIfInBounds_toArray,List.set_cons_zero,List.set_cons_succ]))|(refine Xr.take 5 (some 27) (v:=?_) rfl rfl dK (by rfl) ?_ ?_;rotate_left;(focus(intro w' hk;go_simp;(try with_reducible rfl);done));(try simp only[Act.put,List.setIfInBounds_toArray,List.set_cons_zero,List.set_cons_succ]))|(refine Xr.take 7 (some 29) (v:=?_) rfl rfl dK (by rfl) ?_ ?_;rotate_left;(focus(intro w' hk;go_simp;(try with_reducible rfl);done));(try simp only[Act.put,List.setIfInBounds_toArray,List.set_cons_zero,List.set_cons_succ]))|(refine Xr.take 9 (some 5) (v:=?_) rfl rfl dK (by rfl) ?_ ?_;rotate_left;(focus(intro w' hk;go_simp;(try with_reducible rfl);done));(try simp only[Act.put,List.setIfInBounds_toArray,List.set_cons_zero,List.set_cons_succ])))
 refine Xcl 6 fun w11 hE11 hK11 K hKK=>?_;go_simp;refine(clone_any _ _ _ _ (hl.ext (X.trans hE11)) om).mono ?_;rintro e w12 ⟨C,cc,rfl,hil,hx12,hfr⟩;refine hKK _ _ hx12 ?_;clear hKK;refine ptm ?_
 repeat(first|(refine Xr.take 0 (some 22) (v:=?_) rfl rfl dK (by rfl) ?_ ?_;rotate_left;(focus(intro w' hk;go_simp;(try with_reducible rfl);done));(try simp only[Act.put,List.setIfInBounds_toArray,List.set_cons_zero,List.set_cons_succ]))|(refine Xr.take 1 (some 23) (v:=?_) rfl rfl dK (by rfl) ?_ ?_;rotate_left;(focus(intro w' hk;go_simp;(try with_reducible rfl);done));(try simp only[Act.put,List.setIfInBounds_toArray,List.set_cons_zero,List.set_cons_succ]))|(refine Xr.take 2 (some 24) (v:=?_) rfl rfl dK (by rfl) ?_ ?_;rotate_left;(focus(intro w' hk;go_simp;(try with_reducible rfl);done));(try simp only[Act.put,List.setIfInBounds_toArray,List.set_cons_zero,List.set_cons_succ]))|(refine Xr.take 3 (some 25) (v:=?_) rfl rfl dK (by rfl) ?_ ?_;rotate_left;(focus(intro w' hk;go_simp;(try with_reducible rfl);done));(try simp only[Act.put,List.setIfInBounds_toArray,List.set_cons_zero,List.set_cons_succ]))|(refine Xr.take 4 (some 26) (v:=?_) rfl rfl dK (by rfl) ?_ ?_;rotate_left;(focus(intro w' hk;go_simp;(try with_reducible rfl);done));(try simp only[Act.put,List.setIfInBounds_toArray,List.set_cons_zero,List.set_cons_succ]))|(refine Xr.take 5 (some 27) (v:=?_) rfl rfl dK (by rfl) ?_ ?_;rotate_left;(focus(intro w' hk;go_simp;(try with_reducible rfl);done));(try simp only[Act.put,List.setIfInBounds_toArray,List.set_cons_zero,List.set_cons_succ]))|(refine Xr.take 7 (some 29) (v:=?_) rfl rfl dK (by rfl) ?_ ?_;rotate_left;(focus(intro w' hk;go_simp;(try with_reducible rfl);done));(try simp only[Act.put,List.setIfInBounds_toArray,List.set_cons_zero,List.set_cons_succ]))|(refine Xr.take 9 (some 5) (v:=?_) rfl rfl dK (by rfl) ?_ ?_;rotate_left;(focus(intro w' hk;go_simp;(try with_reducible rfl);done));(try simp only[Act.put,List.setIfInBounds_toArray,List.set_cons_zero,List.set_cons_succ])))
 refine Xsp 8 fun w13 hE13 hK13 K hKK=>?_;have B4':=(((B4.ext hE11).ext hx12).ext hE13);have m0:=(Blk.c3 B4').1;have m1:=(Blk.c3 B4').2.1;have m2:=(Blk.c3 B4').2.2.1;have m0f:=(Blk.c3 B4').2.2.2.1;have m1f:=(Blk.c3 B4').2.2.2.2.1;have m2f:=(Blk.c3 B4').2.2.2.2.2.1;have mz:=(Blk.c3 B4').2.2.2.2.2.2;go_simp;refine hKK _ _ (WI_setL (WI_setL (WI_setL (WI_refl _ _ _) si _ _) si _ _) si _ _) (((hK13.setL si _ _).setL si _ _).setL si _ _) ?_;clear hKK;refine ptm ?_
 repeat(first|(refine Xr.take 0 (some 22) (v:=?_) rfl rfl dK (by rfl) ?_ ?_;rotate_left;(focus(intro w' hk;go_simp;(try with_reducible rfl);done));(try simp only[Act.put,List.setIfInBounds_toArray,List.set_cons_zero,List.set_cons_succ]))|(refine Xr.take 1 (some 23) (v:=?_) rfl rfl dK (by rfl) ?_ ?_;rotate_left;(focus(intro w' hk;go_simp;(try with_reducible rfl);done));(try simp only[Act.put,List.setIfInBounds_toArray,List.set_cons_zero,List.set_cons_succ]))|(refine Xr.take 2 (some 24) (v:=?_) rfl rfl dK (by rfl) ?_ ?_;rotate_left;(focus(intro w' hk;go_simp;(try with_reducible rfl);done));(try simp only[Act.put,List.setIfInBounds_toArray,List.set_cons_zero,List.set_cons_succ]))|(refine Xr.take 3 (some 25) (v:=?_) rfl rfl dK (by rfl) ?_ ?_;rotate_left;(focus(intro w' hk;go_simp;(try with_reducible rfl);done));(try simp only[Act.put,List.setIfInBounds_toArray,List.set_cons_zero,List.set_cons_succ]))|(refine Xr.take 4 (some 26) (v:=?_) rfl rfl dK (by rfl) ?_ ?_;rotate_left;(focus(intro w' hk;go_simp;(try with_reducible rfl);done));(try simp only[Act.put,List.setIfInBounds_toArray,List.set_cons_zero,List.set_cons_succ]))|(refine Xr.take 5 (some 27) (v:=?_) rfl rfl dK (by rfl) ?_ ?_;rotate_left;(focus(intro w' hk;go_simp;(try with_reducible rfl);done));(try simp only[Act.put,List.setIfInBounds_toArray,List.set_cons_zero,List.set_cons_succ]))|(refine Xr.take 7 (some 29) (v:=?_) rfl rfl dK (by rfl) ?_ ?_;rotate_left;(focus(intro w' hk;go_simp;(try with_reducible rfl);done));(try simp only[Act.put,List.setIfInBounds_toArray,List.set_cons_zero,List.set_cons_succ]))|(refine Xr.take 9 (some 5) (v:=?_) rfl rfl dK (by rfl) ?_ ?_;rotate_left;(focus(intro w' hk;go_simp;(try with_reducible rfl);done));(try simp only[Act.put,List.setIfInBounds_toArray,List.set_cons_zero,List.set_cons_succ])))
 refine Xdn fun w14 hE14 hK14=>?_;have hB4:=(((B4'.set 0 (.int .i64 o1)).set 1 (.int .i64 o2)).set 2 (.slice C l.length cc)).ext hE14;simp only[List.setIfInBounds_toArray,List.set_cons_zero,List.set_cons_succ] at hB4;have hz11:=(B4.ext hE11).lt;have hil2:=((((hil.ext hE13).setOld hfr (p:=⟨w.heap.size+1+1,0,none⟩) hz11 (.int .i64 o1)).setOld hfr (p:=⟨w.heap.size+1+1,1,none⟩) hz11 (.int .i64 o2)).setOld hfr (p:=⟨w.heap.size+1+1,2,none⟩) hz11 (.slice C l.length cc)).ext hE14;have hEnd:=(hK14.to_ext X (by simp;omega));have hfr2:=hfr.mono (X.trans hE11);obtain⟨r0,r1,r2,_,_,_,_⟩:=hB4.c3;clear hil hfr kg0 kg1 kp2
 go_wp2
 refine bodyPost_ret (v:=.tuple #[.agg #[.int .i64 o1,.int .i64 o2,.slice C l.length cc],.int .i64 0]) (by simp[results,Tryz.results95,go_sem,r0,r1,r2]) rfl ⟨C,cc,?_,?_,hEnd,hfr2⟩
 ·simp[movedE,HOO.out]
 ·exact hil2
end
section
open Go.RowKit
structure It where
 client:Int
 number:Int
 base:Int
 e:Ed
structure Hv where
 it:It
 A:Option Addr
 c:Nat
def keyV (p:Int×Int):Value:=.agg #[.int .i64 p.1,.int .i64 p.2]
def itV (x:It)(A:Option Addr)(c:Nat):Value:=.agg #[.int .i64 x.client,.int .i64 x.number,.int .i64 x.base,.int .i64 x.e.at_,.int .i64 x.e.del,.slice A x.e.ins.length c]
def hvV (h:Hv):Value:=itV h.it h.A h.c
theorem eqKey (a b c d:Int)(w:World):(Op.equalIn 10000 174 (.agg #[.int .i64 a,.int .i64 b]) (.agg #[.int .i64 c,.int .i64 d])).run Tryz.prog w=.ok (a == c&&b == d) w:=by
 have u3:=Tryz.underlying3;have hS:Tryz.prog.underlying 174=some (.struct (Tryz.prog.fieldsOf 174)):=by kernel_rfl
 have hp:Tryz.prog.stoodInHeld 174=false:=by kernel_rfl
 rw[show(10000:Nat)=9999+1 from rfl,run_equalIn_agg w 9999 174 _ _ hS hp];simp only[Program.fieldsOf,Tryz.underlying174];go_simp;by_cases h1:a=c<;>by_cases h2:b=d<;>simp[h1,h2]
theorem klawInt:KLaw Tryz.prog 3 (Value.int .i64):=int_klaw Tryz.underlying3
theorem klawKey:KLaw Tryz.prog 174 keyV:=by
 refine asking_klaw (d:=.struct (Tryz.prog.fieldsOf 174)) kr (fun x y=>by simp[keyV,Instr.sameNow]) (fun x y w=>?_) (fun e x w=>?_) (fun x=>?_)
 ·show(Op.equalIn 10000 _ _ _).run _ _=_
  unfold keyV;rw[eqKey]
  congr 1
  rw[Bool.eq_iff_iff];simp[Prod.ext_iff]
 ·unfold keyV;have u3:=Tryz.underlying3;have hS:Tryz.prog.underlying 174=some (.struct (Tryz.prog.fieldsOf 174)):=by kernel_rfl
  unfold Instr.checkKey;go_simp;have hc:∀z:Int,∀W:World,(Instr.checkKey e 9999 3 (.int .i64 z)).run Tryz.prog W=.ok () W:=fun z W=>by
   rw[show(9999:Nat)=9998+1 from rfl];unfold Instr.checkKey;simp[Sem.run_bind,run_underlying u3]
  rw[hc,Result.andThen_ok,hc]
 ·simp[keyV,Instr.sameBits]
section
variable {α β:Type} {P:Program} {w:World} {b k e t:Nat} {kv:α->Value} {vv:β->Value} {l:List (α×β)}
theorem wpList_range {ops:Array Oper}{rest:List Oper}{o:Oper}{a:Act}{Q:Exit->Act->World->Prop}(hg:o.guard=none)(m:Operand)(hop:o.op=Op.range t m)(ht:P.underlying t=some (.map k e))
 (hm:a.eval m=.map (some b)) (h:MapAt w b kv vv l)
 (hK:∀w',Ext w w'->RngAt w' w.heap.size b kv vv l l->wpList P ops Q rest (a.put o.dst (.pointer (some ⟨w.heap.size,0,none⟩))) w'):wpList P ops Q (o::rest) a w:=by
 refine wpList_plain hg fun K' hK'=>?_;obtain⟨ob,hrun,hr⟩:=h.range ht;unfold Oper.wp;simp only[execOp,hop,hm,hrun,Sem.run_bind,Sem.run_pure,Result.andThen_ok];exact hK' _ _ (hK _ (Ext.alloc _ _) hr)
end
def flat (l:List (Int×Int×Int)):List Value:=l.flatMap fun y=>[.int .i64 y.1,.int .i64 y.2.1,.int .i64 y.2.2]
theorem flatX_len (l:List (Int×Int×Int)):(flat l).length=l.length*3:=by
 induction l with
 | nil=>rfl
 | cons y l ih=>simp only[flat,List.flatMap_cons,List.length_append] at *;simp only[List.length_cons,List.length_nil];omega
theorem flat_append (l m:List (Int×Int×Int)):flat (l++m)=flat l++flat m:=by simp[flat]
theorem flat_get (l:List (Int×Int×Int))(i:Nat)(h:i<l.length):(flat l)[i*3]? = some (.int .i64 l[i].1)/\(flat l)[i*3+1]? = some (.int .i64 l[i].2.1)/\(flat l)[i*3+2]? = some (.int .i64 l[i].2.2):=by
 induction l generalizing i with
 | nil=>simp at h
 | cons y l ih=>
  cases i with
  | zero=>simp[flat]
  | succ i=>
   have hi:i<l.length:=by simpa using h
   have e:flat (y::l)=.int .i64 y.1::.int .i64 y.2.1::.int .i64 y.2.2::flat l:=by simp[flat]
   have e1:(i+1)*3=i*3+3:=om;rw[e,e1];exact ih i hi
def Off (A:Option Addr)(b:Nat):Prop:=A.map (·.block)≠some b
structure DeskAt (w:World)(base g m1 m2:Nat)(A:Option Addr)(c:Nat)(ap:List (Int×Int×Int))(nx:List (Int×Int))(hd:List ((Int×Int)×Hv)):Prop where
 blk:Blk w g 171 #[.slice A ap.length c,.map (some m1),.map (some m2)]
 own:OwnS w base 179 3 A ap.length c (flat ap)
 next:MapAt w m1 (Value.int .i64) (Value.int .i64) nx
 held:MapAt w m2 keyV hvV hd
 ne:Off A g
 ne2:m1≠m2
 il:∀p∈hd,p.1=(p.2.it.client,p.2.it.number)/\IL w p.2.A p.2.c p.2.it.e.ins/\(p.2.it.e.ins≠[]->∀b,p.2.A.map (·.block)=some b->b≠g/\Off A b)
 lo:base<=g
theorem XL.of_own {w:World}{base c:Nat}{A:Option Addr}{ap:List (Int×Int×Int)}(h:OwnS w base 179 3 A ap.length c (flat ap)):XL w A c ap:=by
 have hc:=OwnS.caps h;refine⟨hc.1,by unfold maxLen;omega,fun hn=>?_⟩;obtain⟨b,o,rfl,hcell⟩:=OwnS.cells h (by intro e;have:=flatX_len ap;rw[e] at this;exact hn (List.eq_nil_of_length_eq_zero (by simp at this;omega)));refine⟨b,o,rfl,fun i hi=>?_⟩;obtain⟨h1,h2,h3⟩:=flat_get ap i hi;obtain⟨l1,e1⟩:=List.getElem?_eq_some_iff.1 h1;obtain⟨l2,e2⟩:=List.getElem?_eq_some_iff.1 h2;obtain⟨l3,e3⟩:=List.getElem?_eq_some_iff.1 h3;have q1:=hcell _ l1;have q2:=hcell _ l2;have q3:=hcell _ l3;rw[e1] at q1;rw[e2] at q2;rw[e3] at q3;refine⟨q1,?_,?_⟩
 ·rw[Nat.add_assoc];exact q2
 ·rw[Nat.add_assoc];exact q3
theorem XL.drop {w:World}{A:Option Addr}{c k:Nat}{xs:List (Int×Int×Int)}(h:XL w A c xs)(hk:k<=xs.length):XL w (A.map (fun x=>x.add (k*3))) (c-k) (xs.drop k):=by
 have h1:=h.le;have h2:=h.cap;refine⟨by simp;omega,om,fun hn=>?_⟩;have hx:xs≠[]:=by rintro rfl;simp at hn
 obtain⟨b,o,rfl,hc⟩:=h.at_ hx;refine⟨b,o+k*3,by rw[Option.map_some,Addr.add_lit],fun i hi=>?_⟩;have hi':k+i<xs.length:=by simp at hi;omega
 have h3:=hc (k+i) hi';have e1:o+(k+i)*3=o+k*3+i*3:=om;rw[e1] at h3
 simpa[List.getElem_drop] using h3
theorem XL.drop_end {w:World}{A:Option Addr}{c k:Nat}{xs:List (Int×Int×Int)}(h:XL w A c xs)(hk:c=k):XL w A 0 (xs.drop k):=by
 have h1:=h.le;rw[List.drop_eq_nil_of_le om];exact⟨by simp,by unfold maxLen;omega,fun hn=>absurd rfl hn⟩
theorem DeskAt.ext {w w':World}{base g m1 m2 c:Nat}{A:Option Addr}{ap nx hd}(h:DeskAt w base g m1 m2 A c ap nx hd)(x:Ext w w'):DeskAt w' base g m1 m2 A c ap nx hd:=
 ⟨h.blk.ext x,OwnS.ext h.own x,h.next.ext x,h.held.ext x,h.ne,h.ne2,fun p hp=>⟨(h.il p hp).1,(h.il p hp).2.1.ext x,(h.il p hp).2.2⟩,h.lo⟩
end
section
open Go.RowKit
attribute [local go_sem ↓] Go.wp_at_zero Go.wp_at_succ
def nxOf (nx:List (Int×Int))(c:Int):Int:=(at? nx c).getD 0
def isRdy (nx:List (Int×Int))(n:Nat)(p:(Int×Int)×Hv):Prop:=p.1.2=nxOf nx p.1.1/\p.2.it.base<=n
theorem nx_look (nx:List (Int×Int))(c:Int):((at? nx c).map (Value.int .i64)).getD (.int .i64 0)=.int .i64 (nxOf nx c):=by
 unfold nxOf;cases at? nx c<;>rfl
def RetRdy (nx:List (Int×Int))(n:Nat)(hd:List ((Int×Int)×Hv))(w:World)(e:Ending)(w':World):Prop:=
 ∃(h:Hv) (f:Bool),e=.returned (.tuple #[hvV h,.bool f])/\Ext w w'/\(f=true->∃p∈hd,p.2=h/\isRdy nx n p/\∀q∈hd,isRdy nx n q->p.1.1<=q.1.1)/\(f=false->∀q∈hd,¬isRdy nx n q)
structure BestOf (nx:List (Int×Int))(n:Nat)(hd left:List ((Int×Int)×Hv))(f:Bool)(bc bn:Int):Prop where
 no:f=false->∀q∈hd,q∉left->¬isRdy nx n q
 yes:f=true->∃p∈hd,p.1=(bc,bn)/\isRdy nx n p/\∀q∈hd,q∉left->isRdy nx n q->p.1.1<=q.1.1
theorem zItem:∀W:World,(zeroValue 57).run Tryz.prog W=.ok (hvV ⟨⟨0,0,0,⟨0,0,[]⟩⟩,none,0⟩) W:=fun W=>by
 go_simp
 rfl
theorem zInt:∀W:World,(zeroValue 3).run Tryz.prog W=.ok (.int .i64 0) W:=fun W=>by
 go_simp
theorem MapAt.kpL {α β:Type}{w w':World}{b:Nat}{kv:α->Value}{vv:β->Value}{l:List (α×β)}{L:List Nat}(h:MapAt w b kv vv l)(x:Kp L w w')(hn:b∉L):MapAt w' b kv vv l:=by
 have hl:=h.lt;obtain⟨es,clock,h,r⟩:=h;exact⟨es,clock,(x.block b hl hn).trans h,r⟩
theorem at_of_mem {α β:Type}[DecidableEq α]{l:List (α×β)}(hn:(l.map (·.1)).Nodup){p:α×β}(hp:p∈l):at? l p.1=some p.2:=by
 unfold at?;induction l with
 | nil=>cases hp
 | cons q l ih=>
  simp only[List.map_cons,List.nodup_cons] at hn;rcases List.mem_cons.1 hp with rfl|hp
  ·simp
  ·have hne:q.1≠p.1:=fun e=>hn.1 (by rw[e];exact List.mem_map.2 ⟨p,hp,rfl⟩);rw[List.find?_cons];have:(q.1 == p.1)=false:=by simp[hne]
   rw[this];exact ih hn.2 hp
theorem eq_of_key {α β:Type}[DecidableEq α]{l:List (α×β)}(hn:(l.map (·.1)).Nodup){p q:α×β}(hp:p∈l)(hq:q∈l)(h:p.1=q.1):p=q:=by
 have h1:=at_of_mem hn hp;have h2:=at_of_mem hn hq;rw[h,h2] at h1;injection h1 with h1
 exact Prod.ext h h1.symm
theorem not_left {α β:Type}[DecidableEq α]{hd left:List (α×β)}(hn:(hd.map (·.1)).Nodup)(hs:∀q∈left,q∈hd){p q:α×β}(hp:p∈left)(hq:q∈hd)(h:q∉delL left p.1):q∉left\/q=p:=by
 by_cases hl:q∈left
 ·right
  refine eq_of_key hn hq (hs p hp) ?_;by_cases hk:q.1=p.1
  ·exact hk
  ·exact absurd (show q∈delL left p.1 from List.mem_filter.2 ⟨hl,by simp[hk]⟩) h
 ·exact .inl hl
theorem RngAt.facts {α β:Type}{w:World}{r b:Nat}{kv:α->Value}{vv:β->Value}{l left:List (α×β)}(h:RngAt w r b kv vv l left):(l.map (·.1)).Nodup/\∀q∈left,q∈l:=by
 obtain⟨_,_,_,_,_,_,_,h1,_,_,_,_,_,h2⟩:=h;exact⟨h1,fun q hq=>h2.subset hq⟩
section
variable {nx:List (Int×Int)} {n:Nat} {hd left:List ((Int×Int)×Hv)} {f:Bool} {bc bn:Int} {p:(Int×Int)×Hv}
theorem BestOf.skip (h:BestOf nx n hd left f bc bn)(hn:(hd.map (·.1)).Nodup)(hs:∀q∈left,q∈hd)(hp:p∈left)(hr:¬isRdy nx n p):BestOf nx n hd (delL left p.1) f bc bn where
 no:=fun hf q hq hl=>by
  rcases not_left hn hs hp hq hl with h1|rfl
  ·exact h.no hf q hq h1
  ·exact hr
 yes:=fun hf=>by
  obtain⟨b,hb,h1,h2,h3⟩:=h.yes hf;refine⟨b,hb,h1,h2,fun q hq hl hqr=>?_⟩;rcases not_left hn hs hp hq hl with h4|rfl
  ·exact h3 q hq h4 hqr
  ·exact absurd hqr hr
theorem BestOf.first (h:BestOf nx n hd left false bc bn)(hn:(hd.map (·.1)).Nodup)(hs:∀q∈left,q∈hd)(hp:p∈left)(hr:isRdy nx n p):BestOf nx n hd (delL left p.1) true p.1.1 p.1.2 where
 no:=fun hf=>by cases hf
 yes:=fun _=>by
  refine⟨p,hs p hp,rfl,hr,fun q hq hl hqr=>?_⟩;rcases not_left hn hs hp hq hl with h4|rfl
  ·exact absurd hqr (h.no rfl q hq h4)
  ·exact Int.le_refl _
theorem BestOf.better (h:BestOf nx n hd left true bc bn)(hn:(hd.map (·.1)).Nodup)(hs:∀q∈left,q∈hd)(hp:p∈left)(hr:isRdy nx n p)(hlt:p.1.1<bc):BestOf nx n hd (delL left p.1) true p.1.1 p.1.2 where
 no:=fun hf=>by cases hf
 yes:=fun _=>by
  obtain⟨b,hb,h1,h2,h3⟩:=h.yes rfl;refine⟨p,hs p hp,rfl,hr,fun q hq hl hqr=>?_⟩;rcases not_left hn hs hp hq hl with h4|rfl
  ·have:=h3 q hq h4 hqr;rw[h1] at this
   simp only at this
   omega
  ·exact Int.le_refl _
theorem BestOf.keep (h:BestOf nx n hd left true bc bn)(hn:(hd.map (·.1)).Nodup)(hs:∀q∈left,q∈hd)(hp:p∈left)(hlt:¬p.1.1<bc):BestOf nx n hd (delL left p.1) true bc bn where
 no:=fun hf=>by cases hf
 yes:=fun _=>by
  obtain⟨b,hb,h1,h2,h3⟩:=h.yes rfl;refine⟨b,hb,h1,h2,fun q hq hl hqr=>?_⟩;rcases not_left hn hs hp hq hl with h4|rfl
  ·exact h3 q hq h4 hqr
  ·rw[h1];simp only;omega
end
theorem filter_less {α β:Type}[DecidableEq α]{left:List (α×β)}{p:α×β}(hp:p∈left){k:Nat}(hk:left.length<=k):(delL left p.1).length<=k-1/\0<k:=by
 have h1:(delL left p.1).length<left.length:=by
  unfold delL;rw[List.length_filter_lt_length_iff_exists];exact⟨p,hp,by simp⟩
 omega
theorem RngAt.far {α β:Type}{w:World}{r b:Nat}{kv:α->Value}{vv:β->Value}{l left:List (α×β)}(h:RngAt w r b kv vv l left){p:Addr}(h1:r≠p.block)(h2:b≠p.block)(u:Value):RngAt (w.setCell p u) r b kv vv l left:=by
 obtain⟨es,clock,since,seen,g1,g2,rest⟩:=h;exact⟨es,clock,since,seen,(Below.heap_setCell w p u r h1).trans g1,(Below.heap_setCell w p u b h2).trans g2,rest⟩
theorem rdy_end {nx:List (Int×Int)}{n:Nat}{hd:List ((Int×Int)×Hv)}{fb:Bool}{bc bn:Int}{h z:Hv}(HB:BestOf nx n hd [] fb bc bn)(hn:(hd.map (·.1)).Nodup)(hh:h=(at? hd (bc,bn)).getD z) :
 (fb=true->∃p∈hd,p.2=h/\isRdy nx n p/\∀q∈hd,isRdy nx n q->p.1.1<=q.1.1)/\(fb=false->∀q∈hd,¬isRdy nx n q):=by
 refine⟨fun hf=>?_,fun hf q hq=>HB.no hf q hq si⟩;obtain⟨p,hp,h1,h2,h3⟩:=HB.yes hf;refine⟨p,hp,?_,h2,fun q hq hr=>h3 q hq si hr⟩;have:=at_of_mem hn hp;rw[h1] at this;rw[hh,this];rfl
theorem D1z1 {P:Prop} (h:P:=by
 clear hm;refine Xr.start [] kr ?_
 repeat(first|(refine Xr.take 0 (some 19) (v:=?_) rfl rfl dK (by rfl) ?_ ?_;rotate_left;(focus(intro w' hk;go_simp;(try with_reducible rfl);done));(try simp only[Act.put,List.setIfInBounds_toArray,List.set_cons_zero,List.set_cons_succ]))|(refine Xr.take 1 (some 20) (v:=?_) rfl rfl dK (by rfl) ?_ ?_;rotate_left;(focus(intro w' hk;go_simp;(try with_reducible rfl);done));(try simp only[Act.put,List.setIfInBounds_toArray,List.set_cons_zero,List.set_cons_succ]))|(refine Xr.take 2 (some 21) (v:=?_) rfl rfl dK (by rfl) ?_ ?_;rotate_left;(focus(intro w' hk;go_simp;(try with_reducible rfl);done));(try simp only[Act.put,List.setIfInBounds_toArray,List.set_cons_zero,List.set_cons_succ]))|(refine Xr.take 3 (some 22) (v:=?_) rfl rfl dK (by rfl) ?_ ?_;rotate_left;(focus(intro w' hk;go_simp;(try with_reducible rfl);done));(try simp only[Act.put,List.setIfInBounds_toArray,List.set_cons_zero,List.set_cons_succ]))|(refine Xr.take 4 (some 23) (v:=?_) rfl rfl dK (by rfl) ?_ ?_;rotate_left;(focus(intro w' hk;go_simp;(try with_reducible rfl);done));(try simp only[Act.put,List.setIfInBounds_toArray,List.set_cons_zero,List.set_cons_succ]))|(refine Xr.take 5 (some 24) (v:=?_) rfl rfl dK (by rfl) ?_ ?_;rotate_left;(focus(intro w' hk;go_simp;(try with_reducible rfl);done));(try simp only[Act.put,List.setIfInBounds_toArray,List.set_cons_zero,List.set_cons_succ]))|(refine Xr.take 6 (some 25) (v:=?_) rfl rfl dK (by rfl) ?_ ?_;rotate_left;(focus(intro w' hk;go_simp;(try with_reducible rfl);done));(try simp only[Act.put,List.setIfInBounds_toArray,List.set_cons_zero,List.set_cons_succ]))|(refine Xr.take 7 (some 26) (v:=?_) rfl rfl dK (by rfl) ?_ ?_;rotate_left;(focus(intro w' hk;go_simp;(try with_reducible rfl);done));(try simp only[Act.put,List.setIfInBounds_toArray,List.set_cons_zero,List.set_cons_succ]))|(refine Xr.take 8 (some 27) (v:=?_) rfl rfl dK (by rfl) ?_ ?_;rotate_left;(focus(intro w' hk;go_simp;(try with_reducible rfl);done));(try simp only[Act.put,List.setIfInBounds_toArray,List.set_cons_zero,List.set_cons_succ]))|(refine Xr.take 9 (some 28) (v:=?_) rfl rfl dK (by rfl) ?_ ?_;rotate_left;(focus(intro w' hk;go_simp;(try with_reducible rfl);done));(try simp only[Act.put,List.setIfInBounds_toArray,List.set_cons_zero,List.set_cons_succ]))|(refine Xr.take 10 (some 29) (v:=?_) rfl rfl dK (by rfl) ?_ ?_;rotate_left;(focus(intro w' hk;go_simp;(try with_reducible rfl);done));(try simp only[Act.put,List.setIfInBounds_toArray,List.set_cons_zero,List.set_cons_succ]))|(refine Xr.take 11 (some 30) (v:=?_) rfl rfl dK (by rfl) ?_ ?_;rotate_left;(focus(intro w' hk;go_simp;(try with_reducible rfl);done));(try simp only[Act.put,List.setIfInBounds_toArray,List.set_cons_zero,List.set_cons_succ]))|(refine Xr.take 12 (some 31) (v:=?_) rfl rfl dK (by rfl) ?_ ?_;rotate_left;(focus(intro w' hk;go_simp;(try with_reducible rfl);done));(try simp only[Act.put,List.setIfInBounds_toArray,List.set_cons_zero,List.set_cons_succ]))|(refine Xr.take 13 (some 32) (v:=?_) rfl rfl dK (by rfl) ?_ ?_;rotate_left;(focus(intro w' hk;go_simp;(try with_reducible rfl);done));(try simp only[Act.put,List.setIfInBounds_toArray,List.set_cons_zero,List.set_cons_succ]))|(refine Xr.skip 13 (some 32) rfl rfl dK (by rfl) ?_;(try simp only[Act.put,List.setIfInBounds_toArray,List.set_cons_zero,List.set_cons_succ]))|(refine Xr.take 14 (some 33) (v:=?_) rfl rfl dK (by rfl) ?_ ?_;rotate_left;(focus(intro w' hk;go_simp;(try with_reducible rfl);done));(try simp only[Act.put,List.setIfInBounds_toArray,List.set_cons_zero,List.set_cons_succ]))|(refine Xr.skip 14 (some 33) rfl rfl dK (by rfl) ?_;(try simp only[Act.put,List.setIfInBounds_toArray,List.set_cons_zero,List.set_cons_succ]))|(refine Xr.take 15 (some 34) (v:=?_) rfl rfl dK (by rfl) ?_ ?_;rotate_left;(focus(intro w' hk;go_simp;(try with_reducible rfl);done));(try simp only[Act.put,List.setIfInBounds_toArray,List.set_cons_zero,List.set_cons_succ]))|(refine Xr.skip 15 (some 34) rfl rfl dK (by rfl) ?_;(try simp only[Act.put,List.setIfInBounds_toArray,List.set_cons_zero,List.set_cons_succ]))|(refine Xr.take 16 (some 35) (v:=?_) rfl rfl dK (by rfl) ?_ ?_;rotate_left;(focus(intro w' hk;go_simp;(try with_reducible rfl);done));(try simp only[Act.put,List.setIfInBounds_toArray,List.set_cons_zero,List.set_cons_succ]))|(refine Xr.skip 16 (some 35) rfl rfl dK (by rfl) ?_;(try simp only[Act.put,List.setIfInBounds_toArray,List.set_cons_zero,List.set_cons_succ]))|(refine Xr.take 17 (some 36) (v:=?_) rfl rfl dK (by rfl) ?_ ?_;rotate_left;(focus(intro w' hk;go_simp;(try with_reducible rfl);done));(try simp only[Act.put,List.setIfInBounds_toArray,List.set_cons_zero,List.set_cons_succ]))|(refine Xr.skip 17 (some 36) rfl rfl dK (by rfl) ?_;(try simp only[Act.put,List.setIfInBounds_toArray,List.set_cons_zero,List.set_cons_succ]))|(refine Xr.take 18 (some 37) (v:=?_) rfl rfl dK (by rfl) ?_ ?_;rotate_left;(focus(intro w' hk;go_simp;(try with_reducible rfl);done));(try simp only[Act.put,List.setIfInBounds_toArray,List.set_cons_zero,List.set_cons_succ]))|(refine Xr.skip 18 (some 37) rfl rfl dK (by rfl) ?_;(try simp only[Act.put,List.setIfInBounds_toArray,List.set_cons_zero,List.set_cons_succ]))|(refine Xr.take 19 (some 38) (v:=?_) rfl rfl dK (by rfl) ?_ ?_;rotate_left;(focus(intro w' hk;go_simp;(try with_reducible rfl);done));(try simp only[Act.put,List.setIfInBounds_toArray,List.set_cons_zero,List.set_cons_succ]))|(refine Xr.skip 19 (some 38) rfl rfl dK (by rfl) ?_;(try simp only[Act.put,List.setIfInBounds_toArray,List.set_cons_zero,List.set_cons_succ]))|(refine Xr.take 20 (some 39) (v:=?_) rfl rfl dK (by rfl) ?_ ?_;rotate_left;(focus(intro w' hk;go_simp;(try with_reducible rfl);done));(try simp only[Act.put,List.setIfInBounds_toArray,List.set_cons_zero,List.set_cons_succ]))|(refine Xr.skip 20 (some 39) rfl rfl dK (by rfl) ?_;(try simp only[Act.put,List.setIfInBounds_toArray,List.set_cons_zero,List.set_cons_succ]))|(refine Xr.take 21 (some 40) (v:=?_) rfl rfl dK (by rfl) ?_ ?_;rotate_left;(focus(intro w' hk;go_simp;(try with_reducible rfl);done));(try simp only[Act.put,List.setIfInBounds_toArray,List.set_cons_zero,List.set_cons_succ])))
 refine Xdn fun w3 hE3 hK3=>?_;have X3:=hK3.nil;clear kd0 kd1 kk0 kk1 ki2 d0 d1 d2 d0f d1f d2f dz k0 k1 k0f k1f kz i2 hlk
 go_wp2_with fail
 go_roundg (gk-1)
 case measure=>have:=HL.out;omega
 case rel=>exact⟨delL left (pc,pn),fb,bc,bn,HL.out.1,rfl,hrg2.ext X3,HS.out,hX2.trans X3,hB2.ext X3,hB4.ext X3⟩):P:=h
theorem ready_any (base g m1 m2:Nat)(A:Option Addr)(c:Nat)(ap:List (Int×Int×Int))(nx:List (Int×Int))(hd:List ((Int×Int)×Hv))(w:World)(hD:DeskAt w base g m1 m2 A c ap nx hd) :
 Calls Tryz.prog 82 #[.pointer (some ⟨g,0,none⟩)] w (RetRdy nx ap.length hd w):=by
 obtain⟨B2,B4,X⟩:=alloc2 w 57 #[.int .i64 0,.int .i64 0,.int .i64 0,.int .i64 0,.int .i64 0,.slice none 0 0] 174 #[.int .i64 0,.int .i64 0];have hD2:=hD.ext X;obtain⟨d0,d1,d2,d0f,d1f,d2f,dz⟩:=hD2.blk.c3;have hcap:=OwnS.caps hD.own;go_enter Tryz.func82,Tryz.ntmps82
 go_wp2_with (at_range;refine wpList_range rfl _ rfl Tryz.underlying168 rfl hD2.held ?_;intro w1 x1 hr1)
 go_frame
 replace X:=X.trans x1;replace hD2:=hD2.ext x1;replace B2:=B2.ext x1;replace B4:=B4.ext x1;have hg2:w.heap.size+1<((w.alloc (.cells #[.int .i64 0,.int .i64 0,.int .i64 0,.int .i64 0,.int .i64 0,.slice none 0 0] 57)).alloc (.cells #[.int .i64 0,.int .i64 0] 174)).heap.size:=by simp
 generalize hW:(w.alloc (.cells #[.int .i64 0,.int .i64 0,.int .i64 0,.int .i64 0,.int .i64 0,.slice none 0 0] 57)).alloc (.cells #[.int .i64 0,.int .i64 0] 174)=W at *;have hgr:=x1.size;generalize hrr:W.heap.size=r at *;clear hW d0 d1 d2 d0f d1f d2f dz
 go_loopg [5] hd.length (fun k f wr=>∃(left:List ((Int×Int)×Hv)) (fb:Bool) (bc bn:Int),left.length<=k/\f=.bool fb/\RngAt wr r m2 keyV hvV hd left/\BestOf nx ap.length hd left fb bc bn/\
  Ext w wr/\Blk wr w.heap.size 57 #[.int .i64 0,.int .i64 0,.int .i64 0,.int .i64 0,.int .i64 0,.slice none 0 0]/\Blk wr (w.heap.size+1) 174 #[.int .i64 bc,.int .i64 bn])
 case atStart=>exact⟨hd,false,0,0,Nat.le_refl _,rfl,hr1,⟨fun _ q hq hn=>absurd hq hn,fun h=>by cases h⟩,X,B2,B4⟩
 case round=>
  obtain⟨left,fb,bc,bn,hlk,rfl,hrg,hbest,hX,hB2,hB4⟩:=hrel;have hfc:=hrg.facts;have hm2:=hD.held.lt
  go_wp2_with (at_next;refine wpList_next rfl _ rfl rfl hrg ?_ ?_)
  ·intro hle;subst hle;have HB:=lh hbest;have hDw:=hD.ext hX;have hnd:=hfc.1;clear hbest hfc hlk hrg;obtain⟨d0,d1,d2,d0f,d1f,d2f,dz⟩:=hDw.blk.c3;obtain⟨k0,k1,k0f,k1f,kz⟩:=hB4.c2;obtain⟨h,hh⟩:∃h:Hv,h=(at? hd (bc,bn)).getD ⟨⟨0,0,0,⟨0,0,[]⟩⟩,none,0⟩:=⟨_,rfl⟩;have hlk:∀W',Kp [w.heap.size] wr W'->(Instr.lookup 168 (.map (some m2)) (.agg #[.int .i64 bc,.int .i64 bn]) false).run Tryz.prog W'=.ok (hvV h) W':=fun W' hk=>by
    have hm:=hDw.held.kpL hk (by have:=hDw.held.ne hB2;simpa using this);have:=(hm.look klawKey Tryz.underlying168 (zItem _) (bc,bn)).1;rw[hh];refine this.trans ?_
    cases at? hd (bc,bn)<;>rfl
   have HH:=lh hh;have HND:=lh hnd;clear hh hnd;obtain⟨⟨hc,hn,hb,⟨ha,hdl,hs⟩⟩,hA,hk⟩:=h;simp only[hvV,itV] at hlk;have hgs:g∉[w.heap.size]:=by
    have:=hD.blk.lt
    simp;omega
   have kd0:=fun(w':World) (h:Kp [w.heap.size] wr w')=>h.cell d0 hgs;have kd2:=fun(w':World) (h:Kp [w.heap.size] wr w')=>h.cell d2 hgs;have kk0:=fun(w':World) (h:Kp [w.heap.size] wr w')=>h.cell k0 si;have kk1:=fun(w':World) (h:Kp [w.heap.size] wr w')=>h.cell k1 si
   go_wp2_with fail
   refine Xr.start [w.heap.size] kr ?_
   repeat(first|(refine Xr.take 0 (some 51) (v:=?_) rfl rfl dK (by rfl) ?_ ?_;rotate_left;(focus(intro w' hk;go_simp;(try with_reducible rfl);done));(try simp only[Act.put,List.setIfInBounds_toArray,List.set_cons_zero,List.set_cons_succ]))|(refine Xr.take 1 (some 52) (v:=?_) rfl rfl dK (by rfl) ?_ ?_;rotate_left;(focus(intro w' hk;go_simp;(try with_reducible rfl);done));(try simp only[Act.put,List.setIfInBounds_toArray,List.set_cons_zero,List.set_cons_succ]))|(refine Xr.take 2 (some 53) (v:=?_) rfl rfl dK (by rfl) ?_ ?_;rotate_left;(focus(intro w' hk;go_simp;(try with_reducible rfl);done));(try simp only[Act.put,List.setIfInBounds_toArray,List.set_cons_zero,List.set_cons_succ]))|(refine Xr.take 3 (some 54) (v:=?_) rfl rfl dK (by rfl) ?_ ?_;rotate_left;(focus(intro w' hk;go_simp;(try with_reducible rfl);done));(try simp only[Act.put,List.setIfInBounds_toArray,List.set_cons_zero,List.set_cons_succ]))|(refine Xr.take 4 (some 55) (v:=?_) rfl rfl dK (by rfl) ?_ ?_;rotate_left;(focus(intro w' hk;go_simp;(try with_reducible rfl);done));(try simp only[Act.put,List.setIfInBounds_toArray,List.set_cons_zero,List.set_cons_succ]))|(refine Xr.take 5 (some 56) (v:=?_) rfl rfl dK (by rfl) ?_ ?_;rotate_left;(focus(intro w' hk;go_simp;(try with_reducible rfl);done));(try simp only[Act.put,List.setIfInBounds_toArray,List.set_cons_zero,List.set_cons_succ]))|(refine Xr.take 6 (some 57) (v:=?_) rfl rfl dK (by rfl) ?_ ?_;rotate_left;(focus(intro w' hk;go_simp;(try with_reducible rfl);done));(try simp only[Act.put,List.setIfInBounds_toArray,List.set_cons_zero,List.set_cons_succ]))|(refine Xr.take 8 (some 3) (v:=?_) rfl rfl dK (by rfl) ?_ ?_;rotate_left;(focus(intro w' hk;go_simp;(try with_reducible rfl);done));(try simp only[Act.put,List.setIfInBounds_toArray,List.set_cons_zero,List.set_cons_succ])))
   refine Xsp 7 fun w5 hE5 hK5 K hKK=>?_;replace hB2:=hB2.ext hE5;have hbz:=hB2.lt;have s0:=hB2.frz 0;have s1:=hB2.frz 1;have s2:=hB2.frz 2;have s3:=hB2.frz 3;have s4:=hB2.frz 4;have s5:=hB2.frz 5;have t0:=hB2.cell 0;have t1:=hB2.cell 1;have t2:=hB2.cell 2;have t3:=hB2.cell 3;have t4:=hB2.cell 4;have t5:=hB2.cell 5;simp only[List.getElem?_toArray,List.getElem?_cons_succ,List.getElem?_cons_zero] at t0 t1 t2 t3 t4 t5;go_simp;have hmem:w.heap.size∈[w.heap.size]:=List.mem_cons_self;refine hKK _ _ (WI_setL (WI_setL (WI_setL (WI_setL (WI_setL (WI_setL (WI_refl _ _ _) hmem _ _) hmem _ _) hmem _ _) hmem _ _) hmem _ _) hmem _ _) ((((((hK5.setL hmem _ _).setL hmem _ _).setL hmem _ _).setL hmem _ _).setL hmem _ _).setL hmem _ _) ?_;clear hKK;refine ptm ?_
   repeat(first|(refine Xr.take 0 (some 51) (v:=?_) rfl rfl dK (by rfl) ?_ ?_;rotate_left;(focus(intro w' hk;go_simp;(try with_reducible rfl);done));(try simp only[Act.put,List.setIfInBounds_toArray,List.set_cons_zero,List.set_cons_succ]))|(refine Xr.take 1 (some 52) (v:=?_) rfl rfl dK (by rfl) ?_ ?_;rotate_left;(focus(intro w' hk;go_simp;(try with_reducible rfl);done));(try simp only[Act.put,List.setIfInBounds_toArray,List.set_cons_zero,List.set_cons_succ]))|(refine Xr.take 2 (some 53) (v:=?_) rfl rfl dK (by rfl) ?_ ?_;rotate_left;(focus(intro w' hk;go_simp;(try with_reducible rfl);done));(try simp only[Act.put,List.setIfInBounds_toArray,List.set_cons_zero,List.set_cons_succ]))|(refine Xr.take 3 (some 54) (v:=?_) rfl rfl dK (by rfl) ?_ ?_;rotate_left;(focus(intro w' hk;go_simp;(try with_reducible rfl);done));(try simp only[Act.put,List.setIfInBounds_toArray,List.set_cons_zero,List.set_cons_succ]))|(refine Xr.take 4 (some 55) (v:=?_) rfl rfl dK (by rfl) ?_ ?_;rotate_left;(focus(intro w' hk;go_simp;(try with_reducible rfl);done));(try simp only[Act.put,List.setIfInBounds_toArray,List.set_cons_zero,List.set_cons_succ]))|(refine Xr.take 5 (some 56) (v:=?_) rfl rfl dK (by rfl) ?_ ?_;rotate_left;(focus(intro w' hk;go_simp;(try with_reducible rfl);done));(try simp only[Act.put,List.setIfInBounds_toArray,List.set_cons_zero,List.set_cons_succ]))|(refine Xr.take 6 (some 57) (v:=?_) rfl rfl dK (by rfl) ?_ ?_;rotate_left;(focus(intro w' hk;go_simp;(try with_reducible rfl);done));(try simp only[Act.put,List.setIfInBounds_toArray,List.set_cons_zero,List.set_cons_succ]))|(refine Xr.take 8 (some 3) (v:=?_) rfl rfl dK (by rfl) ?_ ?_;rotate_left;(focus(intro w' hk;go_simp;(try with_reducible rfl);done));(try simp only[Act.put,List.setIfInBounds_toArray,List.set_cons_zero,List.set_cons_succ])))
   refine Xdn fun w6 hE6 hK6=>?_;have hres:=(((((((hB2.set 0 (.int .i64 hc)).set 1 (.int .i64 hn)).set 2 (.int .i64 hb)).set 3 (.int .i64 ha)).set 4 (.int .i64 hdl)).set 5 (.slice hA hs.length hk))).ext hE6;simp only[List.setIfInBounds_toArray,List.set_cons_zero,List.set_cons_succ] at hres;have r0:=hres.cell 0;have r1:=hres.cell 1;have r2:=hres.cell 2;have r3:=hres.cell 3;have r4:=hres.cell 4;have r5:=hres.cell 5;simp only[List.getElem?_toArray,List.getElem?_cons_succ,List.getElem?_cons_zero] at r0 r1 r2 r3 r4 r5;have hXX:=((((((hX.trans hE5).setNew (p:=⟨w.heap.size,0,none⟩) (Nat.le_refl _) (.int .i64 hc)).setNew (p:=⟨w.heap.size,1,none⟩) (Nat.le_refl _) (.int .i64 hn)).setNew (p:=⟨w.heap.size,2,none⟩) (Nat.le_refl _) (.int .i64 hb)).setNew (p:=⟨w.heap.size,3,none⟩) (Nat.le_refl _) (.int .i64 ha)).setNew (p:=⟨w.heap.size,4,none⟩) (Nat.le_refl _) (.int .i64 hdl)).setNew (p:=⟨w.heap.size,5,none⟩) (Nat.le_refl _) (.slice hA hs.length hk);have hend:=rdy_end HB.out HND.out HH.out;have HEND:=lh hend;clear hend kd0 kd2 kk0 kk1 hlk
   go_wp2
   exact bodyPost_ret (v:=.tuple #[.agg #[.int .i64 hc,.int .i64 hn,.int .i64 hb,.int .i64 ha,.int .i64 hdl,.slice hA hs.length hk],.bool fb]) (by simp[results,Tryz.results82,go_sem,r0,r1,r2,r3,r4,r5]) rfl
    ⟨⟨⟨hc,hn,hb,⟨ha,hdl,hs⟩⟩,hA,hk⟩,fb,rfl,hXX.trans hE6,HEND.out.1,HEND.out.2⟩
  ·intro pc pn h hp w2 hk2 hrg2 hent;obtain⟨⟨qc,qn,qb,⟨qa,qd,qs⟩⟩,qA,qk⟩:=h;have hen:=hent w2 (Ext.rfl' _);clear hent;simp only[keyV,hvV,itV] at hen;have hX2:=hX.kp hk2 (fun i hi=>om);replace hB2:=hk2.blk hB2 om;replace hB4:=hk2.blk hB4 om;clear hk2 hX hrg;have hfl:=filter_less hp hlk;obtain⟨b6,b7,x2⟩:=alloc2 w2 174 #[.int .i64 pc,.int .i64 pn] 57 #[.int .i64 qc,.int .i64 qn,.int .i64 qb,.int .i64 qa,.int .i64 qd,.slice qA qs.length qk];have hDw:=hD.ext (hX2.trans x2);replace hB2:=hB2.ext x2;replace hB4:=hB4.ext x2;replace hrg2:=hrg2.ext x2;replace hX2:=hX2.trans x2;have HB:=lh hbest;have HF:=lh hfc;have HP:=lh hp;have HL:=lh hfl;clear x2 hbest hfc hp hfl hlk
   go_wp2_with fail
   generalize (w2.alloc (.cells #[.int .i64 pc,.int .i64 pn] 174)).alloc (.cells #[.int .i64 qc,.int .i64 qn,.int .i64 qb,.int .i64 qa,.int .i64 qd,.slice qA qs.length qk] 57)=W2 at *;have hz2:W2.heap.size=W2.heap.size:=rfl;have hek:=eqKey;have hlk:∀W',Kp [] W2 W'->(Instr.lookup 167 (.map (some m1)) (.int .i64 pc) false).run Tryz.prog W'=.ok (.int .i64 (nxOf nx pc)) W':=fun W' h=>by
    have:=((hDw.next.ext h.nil).look klawInt Tryz.underlying167 (zInt _) pc).1;rw[nx_look] at this;exact this
   obtain⟨d0,d1,d2,d0f,d1f,d2f,dz⟩:=hDw.blk.c3;obtain⟨k0,k1,k0f,k1f,kz⟩:=b6.c2;have i2:=b7.cell 2;simp only[List.getElem?_toArray,List.getElem?_cons_succ,List.getElem?_cons_zero] at i2;have kd0:=kc0 d0;have kd1:=kc0 d1;have kk0:=kc0 k0;have kk1:=kc0 k1;have ki2:=kc0 i2;by_cases hm:pn=nxOf nx pc
   ·have hmB:(pn == nxOf nx pc)=true:=by simpa using hm
    by_cases hb:(ap.length:Int)<qb
    ·have HS:=lh (HB.out.skip HF.out.1 HF.out.2 HP.out (fun h=>by have:=h.2;simp only at this;omega));exact D1z1
    ·have hr:isRdy nx ap.length ((pc,pn),⟨⟨qc,qn,qb,⟨qa,qd,qs⟩⟩,qA,qk⟩):=⟨hm,by simp only;omega⟩;have HR:=lh hr;clear hm hr;have hnb:decide ((ap.length:Int)<qb)=false:=by simpa using hb
     refine Xr.start [] kr ?_
     repeat(first|(refine Xr.take 0 (some 19) (v:=?_) rfl rfl dK (by rfl) ?_ ?_;rotate_left;(focus(intro w' hk;go_simp;(try with_reducible rfl);done));(try simp only[Act.put,List.setIfInBounds_toArray,List.set_cons_zero,List.set_cons_succ]))|(refine Xr.take 1 (some 20) (v:=?_) rfl rfl dK (by rfl) ?_ ?_;rotate_left;(focus(intro w' hk;go_simp;(try with_reducible rfl);done));(try simp only[Act.put,List.setIfInBounds_toArray,List.set_cons_zero,List.set_cons_succ]))|(refine Xr.take 2 (some 21) (v:=?_) rfl rfl dK (by rfl) ?_ ?_;rotate_left;(focus(intro w' hk;go_simp;(try with_reducible rfl);done));(try simp only[Act.put,List.setIfInBounds_toArray,List.set_cons_zero,List.set_cons_succ]))|(refine Xr.take 3 (some 22) (v:=?_) rfl rfl dK (by rfl) ?_ ?_;rotate_left;(focus(intro w' hk;go_simp;(try with_reducible rfl);done));(try simp only[Act.put,List.setIfInBounds_toArray,List.set_cons_zero,List.set_cons_succ]))|(refine Xr.take 4 (some 23) (v:=?_) rfl rfl dK (by rfl) ?_ ?_;rotate_left;(focus(intro w' hk;go_simp;(try with_reducible rfl);done));(try simp only[Act.put,List.setIfInBounds_toArray,List.set_cons_zero,List.set_cons_succ]))|(refine Xr.take 5 (some 24) (v:=?_) rfl rfl dK (by rfl) ?_ ?_;rotate_left;(focus(intro w' hk;go_simp;(try with_reducible rfl);done));(try simp only[Act.put,List.setIfInBounds_toArray,List.set_cons_zero,List.set_cons_succ]))|(refine Xr.take 6 (some 25) (v:=?_) rfl rfl dK (by rfl) ?_ ?_;rotate_left;(focus(intro w' hk;go_simp;(try with_reducible rfl);done));(try simp only[Act.put,List.setIfInBounds_toArray,List.set_cons_zero,List.set_cons_succ]))|(refine Xr.take 7 (some 26) (v:=?_) rfl rfl dK (by rfl) ?_ ?_;rotate_left;(focus(intro w' hk;go_simp;(try with_reducible rfl);done));(try simp only[Act.put,List.setIfInBounds_toArray,List.set_cons_zero,List.set_cons_succ]))|(refine Xr.take 8 (some 27) (v:=?_) rfl rfl dK (by rfl) ?_ ?_;rotate_left;(focus(intro w' hk;go_simp;(try with_reducible rfl);done));(try simp only[Act.put,List.setIfInBounds_toArray,List.set_cons_zero,List.set_cons_succ]))|(refine Xr.take 9 (some 28) (v:=?_) rfl rfl dK (by rfl) ?_ ?_;rotate_left;(focus(intro w' hk;go_simp;(try with_reducible rfl);done));(try simp only[Act.put,List.setIfInBounds_toArray,List.set_cons_zero,List.set_cons_succ]))|(refine Xr.take 10 (some 29) (v:=?_) rfl rfl dK (by rfl) ?_ ?_;rotate_left;(focus(intro w' hk;go_simp;(try with_reducible rfl);done));(try simp only[Act.put,List.setIfInBounds_toArray,List.set_cons_zero,List.set_cons_succ]))|(refine Xr.take 11 (some 30) (v:=?_) rfl rfl dK (by rfl) ?_ ?_;rotate_left;(focus(intro w' hk;go_simp;(try with_reducible rfl);done));(try simp only[Act.put,List.setIfInBounds_toArray,List.set_cons_zero,List.set_cons_succ]))|(refine Xr.take 12 (some 31) (v:=?_) rfl rfl dK (by rfl) ?_ ?_;rotate_left;(focus(intro w' hk;go_simp;(try with_reducible rfl);done));(try simp only[Act.put,List.setIfInBounds_toArray,List.set_cons_zero,List.set_cons_succ]))|(refine Xr.take 13 (some 32) (v:=?_) rfl rfl dK (by rfl) ?_ ?_;rotate_left;(focus(intro w' hk;go_simp;(try with_reducible rfl);done));(try simp only[Act.put,List.setIfInBounds_toArray,List.set_cons_zero,List.set_cons_succ]))|(refine Xr.skip 13 (some 32) rfl rfl dK (by rfl) ?_;(try simp only[Act.put,List.setIfInBounds_toArray,List.set_cons_zero,List.set_cons_succ]))|(refine Xr.take 14 (some 33) (v:=?_) rfl rfl dK (by rfl) ?_ ?_;rotate_left;(focus(intro w' hk;go_simp;(try with_reducible rfl);done));(try simp only[Act.put,List.setIfInBounds_toArray,List.set_cons_zero,List.set_cons_succ]))|(refine Xr.skip 14 (some 33) rfl rfl dK (by rfl) ?_;(try simp only[Act.put,List.setIfInBounds_toArray,List.set_cons_zero,List.set_cons_succ]))|(refine Xr.take 15 (some 34) (v:=?_) rfl rfl dK (by rfl) ?_ ?_;rotate_left;(focus(intro w' hk;go_simp;(try with_reducible rfl);done));(try simp only[Act.put,List.setIfInBounds_toArray,List.set_cons_zero,List.set_cons_succ]))|(refine Xr.skip 15 (some 34) rfl rfl dK (by rfl) ?_;(try simp only[Act.put,List.setIfInBounds_toArray,List.set_cons_zero,List.set_cons_succ]))|(refine Xr.take 16 (some 35) (v:=?_) rfl rfl dK (by rfl) ?_ ?_;rotate_left;(focus(intro w' hk;go_simp;(try with_reducible rfl);done));(try simp only[Act.put,List.setIfInBounds_toArray,List.set_cons_zero,List.set_cons_succ]))|(refine Xr.skip 16 (some 35) rfl rfl dK (by rfl) ?_;(try simp only[Act.put,List.setIfInBounds_toArray,List.set_cons_zero,List.set_cons_succ]))|(refine Xr.take 17 (some 36) (v:=?_) rfl rfl dK (by rfl) ?_ ?_;rotate_left;(focus(intro w' hk;go_simp;(try with_reducible rfl);done));(try simp only[Act.put,List.setIfInBounds_toArray,List.set_cons_zero,List.set_cons_succ]))|(refine Xr.skip 17 (some 36) rfl rfl dK (by rfl) ?_;(try simp only[Act.put,List.setIfInBounds_toArray,List.set_cons_zero,List.set_cons_succ]))|(refine Xr.take 18 (some 37) (v:=?_) rfl rfl dK (by rfl) ?_ ?_;rotate_left;(focus(intro w' hk;go_simp;(try with_reducible rfl);done));(try simp only[Act.put,List.setIfInBounds_toArray,List.set_cons_zero,List.set_cons_succ]))|(refine Xr.skip 18 (some 37) rfl rfl dK (by rfl) ?_;(try simp only[Act.put,List.setIfInBounds_toArray,List.set_cons_zero,List.set_cons_succ]))|(refine Xr.take 19 (some 38) (v:=?_) rfl rfl dK (by rfl) ?_ ?_;rotate_left;(focus(intro w' hk;go_simp;(try with_reducible rfl);done));(try simp only[Act.put,List.setIfInBounds_toArray,List.set_cons_zero,List.set_cons_succ]))|(refine Xr.skip 19 (some 38) rfl rfl dK (by rfl) ?_;(try simp only[Act.put,List.setIfInBounds_toArray,List.set_cons_zero,List.set_cons_succ]))|(refine Xr.take 20 (some 39) (v:=?_) rfl rfl dK (by rfl) ?_ ?_;rotate_left;(focus(intro w' hk;go_simp;(try with_reducible rfl);done));(try simp only[Act.put,List.setIfInBounds_toArray,List.set_cons_zero,List.set_cons_succ]))|(refine Xr.skip 20 (some 39) rfl rfl dK (by rfl) ?_;(try simp only[Act.put,List.setIfInBounds_toArray,List.set_cons_zero,List.set_cons_succ]))|(refine Xr.take 21 (some 40) (v:=?_) rfl rfl dK (by rfl) ?_ ?_;rotate_left;(focus(intro w' hk;go_simp;(try with_reducible rfl);done));(try simp only[Act.put,List.setIfInBounds_toArray,List.set_cons_zero,List.set_cons_succ])))
     refine Xdn fun w3 hE3 hK3=>?_;have X3:=hK3.nil;clear kd0 kd1 kk0 kk1 ki2 d0 d1 d2 d0f d1f d2f dz i2 hlk;replace hX2:=hX2.trans X3;replace hB2:=hB2.ext X3;replace hB4:=hB4.ext X3;replace b6:=b6.ext X3;replace hrg2:=hrg2.ext X3;clear k0 k1 k0f k1f kz X3 hE3 hK3;obtain⟨k0,k1,k0f,k1f,kz⟩:=b6.c2;obtain⟨c0,c1,c0f,c1f,cz⟩:=hB4.c2
     cases fb with
     | false=>
      have HS:=lh (HB.out.first HF.out.1 HF.out.2 HP.out HR.out)
      go_wp2_with fail
      have hB5:=(hB4.set 0 (.int .i64 pc)).set 1 (.int .i64 pn);simp only[List.setIfInBounds_toArray,List.set_cons_zero,List.set_cons_succ] at hB5;have hne:w.heap.size≠w.heap.size+1:=om
      go_roundg (gk-1)
      case measure=>have:=HL.out;omega
      case rel=>exact⟨delL left (pc,pn),true,pc,pn,HL.out.1,rfl,(hrg2.far (by simp;omega) (by simp;omega) _).far (by simp;omega) (by simp;omega) _,HS.out,(hX2.setNew si _).setNew si _,(hB2.far si _).far si _,hB5⟩
     | true=>
      by_cases hlt:pc<bc
      ·have HS:=lh (HB.out.better HF.out.1 HF.out.2 HP.out HR.out hlt)
       go_wp2_with fail
       have hB5:=(hB4.set 0 (.int .i64 pc)).set 1 (.int .i64 pn);simp only[List.setIfInBounds_toArray,List.set_cons_zero,List.set_cons_succ] at hB5
       go_roundg (gk-1)
       case measure=>have:=HL.out;omega
       case rel=>exact⟨delL left (pc,pn),true,pc,pn,HL.out.1,rfl,(hrg2.far (by simp;omega) (by simp;omega) _).far (by simp;omega) (by simp;omega) _,HS.out,(hX2.setNew si _).setNew si _,(hB2.far si _).far si _,hB5⟩
      ·have HS:=lh (HB.out.keep HF.out.1 HF.out.2 HP.out hlt)
       go_wp2_with fail
       go_roundg (gk-1)
       case measure=>have:=HL.out;omega
       case rel=>exact⟨delL left (pc,pn),true,bc,bn,HL.out.1,rfl,hrg2,HS.out,hX2,hB2,hB4⟩
   ·have hmB:(pn == nxOf nx pc)=false:=by simpa using hm
    have HS:=lh (HB.out.skip HF.out.1 HF.out.2 HP.out (fun h=>hm h.1));exact D1z1
theorem IL.take {w:World}{A:Option Addr}{c:Nat}{xs:List Int}(h:IL w A c xs)(j:Nat):IL w A c (xs.take j):=by
 have h1:=h.le;refine⟨by simp;omega,h.cap,fun x hx=>h.rng x (List.mem_of_mem_take hx),fun hn=>?_⟩;obtain⟨b,o,rfl,hc⟩:=h.at_ (by rintro rfl;simp at hn);refine⟨b,o,rfl,fun i hi=>?_⟩;rw[List.getElem_take];exact hc i (by simp at hi;omega)
theorem IL.drop {w:World}{A:Option Addr}{c k:Nat}{xs:List Int}(h:IL w A c xs)(hk:k<=xs.length):IL w (A.map (fun x=>x.add k)) (c-k) (xs.drop k):=by
 have h1:=IL.cut_in h (k:=k) (j:=xs.length) hk (Nat.le_refl _)
 rwa [List.take_of_length_le si] at h1
theorem IL.drop_end {w:World}{A:Option Addr}{c k:Nat}{xs:List Int}(h:IL w A c xs)(hk:c=k):IL w A 0 (xs.drop k):=by
 have h1:=IL.cut_end h (j:=xs.length) hk
 rwa [List.take_of_length_le si] at h1
def RetSp (xs:List Int)(err:Int)(w:World)(r:Ending)(w':World):Prop:=
 ∃A c,r=.returned (.tuple #[.slice A xs.length c,.int .i64 err])/\IL w' A c xs/\Ext w w'/\Fr w A
def spliceL (t:List Int)(a d:Int)(l:List Int):List Int:=t.take a.toNat++l++t.drop (a+d).toNat
theorem editErr_ok {n:Nat}{a d:Int}{l:List Int}(h:editErr n a d l=0):0<=a/\0<=d/\a+d<=n/\l.all symOk=true/\(n:Int)-d+l.length<=65536:=by
 unfold editErr at h
 split at h
 ·split at h
  ·split at h
   ·omega
   ·refine⟨om,om,om,by assumption,om⟩
  ·omega
 ·omega
theorem splice_no (T:Option Addr)(tc:Nat)(t:List Int)(a d:Int)(A:Option Addr)(c:Nat)(l:List Int)(w:World)(_ht:IL w T tc t)(hl:IL w A c l)(hd:I64 d)
 (hlen:t.length<=1099511627776) (hlen2:l.length<=1099511627776) (he:editErr t.length a d l≠0) :
 Calls Tryz.prog 85 #[.slice T t.length tc,.agg #[.int .i64 a,.int .i64 d,.slice A l.length c]] w (RetSp [] (editErr t.length a d l) w):=by
 have hx:=Ext.alloc w (.cells #[.int .i64 a,.int .i64 d,.slice A l.length c] 55);have HC:=lh (tcheck_any T t.length tc a d A c l _ (hl.ext hx) om om hd);generalize editErr t.length a d l=er at *;clear hlen hlen2;go_enter Tryz.func85,Tryz.ntmps85
 go_wp2_with fail
 refine HC.out.mono ?_;rintro e w1 ⟨rfl,hx1⟩
 go_wp2
 exact bodyPost_ret (v:=.tuple #[.slice none 0 0,.int .i64 er]) (by simp[results,Tryz.results85,go_sem]) rfl ⟨none,0,rfl,IL.nil _,hx.trans hx1,Fr.nil _⟩
theorem E15z1 {P:Prop} (h:P:=by
 have HCC:=lh (concat_any _ _ _ _ hLL HLL.out)
 rw[<-HSL.out] at HCC;clear hLL;go_simp;refine HCC.out.mono ?_;rintro e w8 ⟨C,cc,rfl,hil,hx8,hfr⟩;refine hKK _ _ (WI_ext hx8) (hK7.ext hx8) ?_;clear hKK;refine ptm ?_;refine Xtk 15 ?_;refine Xtn ?_;refine Xdn fun w9 hE9 hK9=>?_
 go_wp2
 exact bodyPost_ret (v:=.tuple #[.slice C (spliceL t an dn l).length cc,.int .i64 0]) (by simp[results,Tryz.results85,go_sem]) rfl ⟨C,cc,rfl,hil.ext hE9,hx.trans hK9.nil,hfr.mono X7⟩):P:=h
theorem splice_ok (T:Option Addr)(tc:Nat)(t:List Int)(a d:Int)(A:Option Addr)(c:Nat)(l:List Int)(w:World)(ht:IL w T tc t)(hl:IL w A c l)(hd:I64 d)
 (hlen:t.length<=1099511627776) (hlen2:l.length<=1099511627776) (he:editErr t.length a d l=0) :
 Calls Tryz.prog 85 #[.slice T t.length tc,.agg #[.int .i64 a,.int .i64 d,.slice A l.length c]] w (RetSp (spliceL t a d l) 0 w):=by
 obtain⟨e1,e2,e3,e4,e5⟩:=editErr_ok he;obtain⟨an,rfl⟩:∃n:Nat,a=n:=⟨a.toNat,om⟩;obtain⟨dn,rfl⟩:∃n:Nat,d=n:=⟨d.toNat,om⟩;obtain⟨m,hm⟩:∃m:Nat,(an:Int)+(dn:Int)=(m:Int):=⟨an+dn,om⟩;have hx:=Ext.alloc w (.cells #[.int .i64 an,.int .i64 dn,.slice A l.length c] 55);have HC:=lh (tcheck_any T t.length tc an dn A c l _ (hl.ext hx) om om hd);rw[he] at HC;have hb:=Blk.new w 55 #[.int .i64 an,.int .i64 dn,.slice A l.length c];obtain⟨a1,a2⟩:=ht.len;have hsl:spliceL t an dn l=[t.take an,l,t.drop m].flatten:=by simp[spliceL,hm]
 have hll:[t.take an,l,t.drop m].flatten.length<=1099511627776:=by simp;omega
 have HSL:=lh hsl;have HLL:=lh hll;have g1:(m:Int)<=1099511627776:=om;have g2:m<=t.length:=om;have g3:an<=t.length:=om;have g4:an<=tc:=om;have g5:m<=tc:=om;have HT:=lh (show(t.take an).length=an/\(t.drop m).length=t.length-m by simp;omega);clear hlen hlen2 he e1 e2 e4 e5 hsl hll hd;have hg1:(an:Int)+dn<=1099511627776:=om;have hwm:IntKind.i64.wrap (m:Int)=(m:Int):=wj;have g6:(m:Int)<=t.length:=om;by_cases hc:tc=m
 ·subst hc;go_enter Tryz.func85,Tryz.ntmps85
  go_wp2_with fail
  refine HC.out.mono ?_;rintro e w1 ⟨rfl,hx1⟩;replace hx:=hx.trans hx1;obtain⟨p0,p1,p2,_,_,_,pz⟩:=(hb.ext hx1).c3;have kp0:=kc0 p0;have kp1:=kc0 p1;have kp2:=kc0 p2
  go_wp2_with fail
  refine Xr.start [] kr ?_;refine Xtk 0 ?_
  iterate 12(refine Xtn ?_)
  refine Xr.lazy 13 26 14 (fun g=>.slice (some ⟨g,0,none⟩) 3 3) 22 #[.slice T an tc,.slice A l.length c,.slice T (t.length-tc) 0] rfl si dK si (fun w'=>by go_simp) ?_;refine Xr.stepZ rfl dK (fun _=>by rfl) (fun w7 g hE7 hK7 hg hB _ K hKK=>?_);refine ptm ?_;have X7:=hx.trans hK7.nil;have hLL:LL w7 (some ⟨g,0,none⟩) 3 [t.take an,l,t.drop tc]:=LL.three (by rw[HT.out.1,HT.out.2];exact hB) ((ht.ext X7).take an) (hl.ext X7) ((ht.ext X7).drop_end rfl);exact E15z1
 ·have hci:(tc:Int)≠m:=om;go_enter Tryz.func85,Tryz.ntmps85
  go_wp2_with fail
  refine HC.out.mono ?_;rintro e w1 ⟨rfl,hx1⟩;replace hx:=hx.trans hx1;obtain⟨p0,p1,p2,_,_,_,pz⟩:=(hb.ext hx1).c3;have kp0:=kc0 p0;have kp1:=kc0 p1;have kp2:=kc0 p2
  go_wp2_with fail
  refine Xr.start [] kr ?_;refine Xtk 0 ?_
  iterate 12(refine Xtn ?_)
  refine Xr.lazy 13 26 14 (fun g=>.slice (some ⟨g,0,none⟩) 3 3) 22 #[.slice T an tc,.slice A l.length c,.slice (T.map (fun x=>x.add m)) (t.length-m) (tc-m)] rfl si dK si (fun w'=>by go_simp) ?_;refine Xr.stepZ rfl dK (fun _=>by rfl) (fun w7 g hE7 hK7 hg hB _ K hKK=>?_);refine ptm ?_;have X7:=hx.trans hK7.nil;have hLL:LL w7 (some ⟨g,0,none⟩) 3 [t.take an,l,t.drop m]:=LL.three (by rw[HT.out.1,HT.out.2];exact hB) ((ht.ext X7).take an) (hl.ext X7) ((ht.ext X7).drop g2);exact E15z1
end
section
open Go.RowKit
theorem rtext_sym (l:List Int)(m:Nat):(rtext l m).all symOk=true:=by
 rw[List.all_eq_true];intro x hx;have:=rtext_bd l m x hx;exact symOk_mk om om
theorem redit_ins (size n m:Int):(redit size n m).ins.all symOk=true/\(redit size n m).ins.length<=3:=by
 refine⟨rtext_sym _ _,?_⟩;have h:=rtext_len [around m 1048576,around m 1048576 / 12,around m 1048576 / 144] (around m 1048576 % 4).toNat;have h2:around m 1048576 % 4<4:=Int.emod_lt_of_pos _ om;have h3:(redit size n m).ins.length=(rtext [around m 1048576,around m 1048576 / 12,around m 1048576 / 144] (around m 1048576 % 4).toNat).length:=rfl;omega
def EdOf (n:Nat)(e:Ed):Prop:=0<=e.at_/\0<=e.del/\e.at_+e.del<=n/\e.ins.all symOk=true
theorem editErr_zero {n:Nat}{e:Ed}(h:EdOf n e)(hn:n+e.ins.length<=65536):editErr n e.at_ e.del e.ins=0:=by
 obtain⟨h1,h2,h3,h4⟩:=h;unfold editErr;rw[if_pos om,if_pos h4,if_neg om]
theorem formed_of {n:Nat}{e:Ed}(h:EdOf n e)(hn:n<=60000)(hl:e.ins.length<=60000):formed e.at_ e.del e.ins=true:=by
 obtain⟨h1,h2,h3,h4⟩:=h;simp only[formed,formedN,Bool.and_eq_true,decide_eq_true_eq];exact⟨om,h4⟩
def spliceE (t:List Int)(e:Ed):List Int:=spliceL t e.at_ e.del e.ins
theorem spliceL_len {t:List Int}{a d:Int}{l:List Int}(h1:0<=a)(h2:0<=d)(h3:a+d<=t.length):((spliceL t a d l).length:Int)=t.length-d+l.length:=by
 simp[spliceL];omega
theorem spliceE_len {t:List Int}{e:Ed}(h:EdOf t.length e):((spliceE t e).length:Int)=t.length-e.del+e.ins.length:=spliceL_len h.1 h.2.1 h.2.2.1
theorem moved_of {n m:Nat}{e o:Ed}(he:EdOf n e)(ho:EdOf n o)(hm:(m:Int)=n-o.del+o.ins.length):EdOf m (movedE e o):=by
 obtain⟨h1,h2,h3,h4⟩:=he;obtain⟨g1,g2,g3,g4⟩:=ho;refine⟨?_,?_,?_,h4⟩
 ·simp only[movedE,overOne,beginM]
  split<;>(try split)<;>omega
 ·simp only[movedE,overOne]
  split
  ·split<;>omega
  ·omega
 ·simp only[movedE,overOne,beginM,endM]
  split<;>split<;>(try split)<;>(try split)<;>(try split)<;>omega
theorem replaced_any (A B:Option Addr)(c c' n at_ stay:Nat)(t:List Int)(w:World)(hl:IL w B c' t)(hn:n<=1099511627776)(ht:t.length<=1099511627776)(h1:at_+stay<=t.length)(h2:at_+stay<=n) :
 Calls Tryz.prog 155 #[.slice A n c,.slice B t.length c',.int .i64 at_,.int .i64 stay] w (RetEdF ⟨at_,(n:Int)-stay-at_,(t.drop at_).take (t.length-stay-at_)⟩ w):=by
 obtain⟨a1,a2⟩:=hl.len;obtain⟨B8,X8⟩:=alloc1 w 55 #[.int .i64 0,.int .i64 0,.slice none 0 0];have hul:((t.drop at_).take (t.length-stay-at_)).length=t.length-stay-at_:=by simp;omega
 have hb:((t.drop at_).take (t.length-stay-at_)).length<=1099511627776:=by rw[hul];omega
 have hin:=fun h=>IL.cut_in (hl.ext X8) (k:=at_) (j:=t.length-stay) h om;have hend:=fun h=>IL.cut_end (j:=t.length-stay) (k:=at_) (hl.ext X8) h;generalize hu:(t.drop at_).take (t.length-stay-at_)=u at *;have HUL:=lh hul.symm;have HB:=lh hb;have HIN:=lh hin;have HEND:=lh hend;clear hul hb hin hend hu;go_enter Tryz.func155,Tryz.ntmps155
 go_wp2_with fail
 all_goals
  rw[HUL.out];refine(clone_any _ _ u _ (by first|exact HIN.out om|(rename_i hc _;exact HEND.out hc)|exact HEND.out (by assumption)) HB.out).mono ?_;rintro e w1 ⟨C,cc,rfl,hil,hx1,hfr⟩;obtain⟨r0,r1,r2,s0,s1,s2,hz4⟩:=(B8.ext hx1).c3
  go_wp2
  refine bodyPost_ret (v:=.agg #[.int .i64 at_,.int .i64 ((n:Int)-stay-at_),.slice C u.length cc]) (by simp[results,Tryz.results155,go_sem,r0,r1,r2]) rfl ⟨C,cc,rfl,?_,?_,hfr.mono X8⟩
  ·exact((hil.setOld hfr (p:=⟨w.heap.size,0,none⟩) B8.lt _).setOld hfr (p:=⟨w.heap.size,1,none⟩) B8.lt _).setOld hfr (p:=⟨w.heap.size,2,none⟩) B8.lt _
  ·exact(((X8.trans hx1).setNew si _).setNew si _).setNew si _
def InsOk (runes:Bool)(caps:Int)(n:Nat)(i:Ins):Prop:=
 (i.op=1\/i.set=[])/\(i.op=2\/i.y=0)/\(i.op=2\/i.op=3\/i.x=0)/\(i.op=4\/i.op=5\/i.n=0)/\
 (i.op=0\/(i.op=1/\validE i.set=0/\∀s,i.set.getLast? = some s->s.2<=topV runes)\/(i.op=2/\(0<=i.x/\i.x<n)/\0<=i.y/\i.y<n)\/(i.op=3/\0<=i.x/\i.x<n)\/
  (i.op=4/\0<=i.n/\i.n<2*caps)\/(i.op=5/\0<=i.n/\i.n<=5))
open Classical in
noncomputable def progE (runes:Bool) (caps:Int) (G:List Ins):Int:=
 if 8192<G.length then 4 else if G.length=0\/caps<0\/9<caps then 1 else if ∀i∈G,InsOk runes caps G.length i then
  (match G.getLast? with|some i=>if i.op=0\/i.op=2\/i.op=3 then 0 else 1|none=>1) else 1
open Classical in
noncomputable def chkE (runes:Bool) (caps:Int) (G:List Ins):Int:=
 if progE runes caps G≠0 then progE runes caps G else if ∃i∈G,i.op=5 then 10 else 0
theorem progE_big {runes:Bool}{caps:Int}{G:List Ins}(h:8192<G.length):progE runes caps G=4:=by unfold progE;rw[if_pos h]
theorem progE_arg {runes:Bool}{caps:Int}{G:List Ins}(h:¬8192<G.length)(h2:G.length=0\/caps<0\/9<caps):progE runes caps G=1:=by unfold progE;rw[if_neg h,if_pos h2]
theorem progE_bad {runes:Bool}{caps:Int}{G:List Ins}(h:¬8192<G.length)(h2:¬(G.length=0\/caps<0\/9<caps)){k:Nat}(hk:k<G.length)(h3:¬InsOk runes caps G.length G[k]):progE runes caps G=1:=by
 unfold progE;rw[if_neg h,if_neg h2,if_neg (fun h4=>h3 (h4 _ (List.getElem_mem hk)))]
theorem progE_end {runes:Bool}{caps:Int}{G:List Ins}(h:¬8192<G.length)(h2:¬(G.length=0\/caps<0\/9<caps))(h3:∀k (hk:k<G.length),InsOk runes caps G.length G[k])(hl:G.length-1<G.length) :
 progE runes caps G=if G[G.length-1].op=0\/G[G.length-1].op=2\/G[G.length-1].op=3 then 0 else 1:=by
 unfold progE;rw[if_neg h,if_neg h2,if_pos (fun i hi=>by obtain⟨k,hk,rfl⟩:=List.mem_iff_getElem.1 hi;exact h3 k hk),List.getLast?_eq_getElem?,List.getElem?_eq_getElem hl]
structure GOk (runes:Bool)(caps:Int)(G:List Ins):Prop where
 len:0<G.length/\G.length<=8192
 cap9:0<=caps/\caps<=9
 ins:∀k (hk:k<G.length),InsOk runes caps G.length G[k]
 last:∀hl:G.length-1<G.length,G[G.length-1].op=0\/G[G.length-1].op=2\/G[G.length-1].op=3
 plain:∀k (hk:k<G.length),G[k].op≠5
theorem chkE_zero {runes:Bool}{caps:Int}{G:List Ins}(h:chkE runes caps G=0):GOk runes caps G:=by
 unfold chkE at h
 split at h
 ·contradiction
 ·rename_i hp
  have hp:progE runes caps G=0:=Classical.not_not.1 hp
  split at h
  ·cases h
  ·rename_i hn
   unfold progE at hp
   split at hp
   ·cases hp
   ·split at hp
    ·cases hp
    ·split at hp
     ·rename_i h1 h2 h3
      refine⟨om,om,fun k hk=>h3 _ (List.getElem_mem hk),fun hl=>?_,fun k hk e=>hn ⟨_,List.getElem_mem hk,e⟩⟩;rw[List.getLast?_eq_getElem?,List.getElem?_eq_getElem hl] at hp
      simp only at hp
      split at hp
      ·assumption
      ·cases hp
     ·cases hp
namespace GOk
variable {runes:Bool} {caps:Int} {G:List Ins}
theorem op (h:GOk runes caps G){k:Nat}(hk:k<G.length):G[k].op=0\/G[k].op=1\/G[k].op=2\/G[k].op=3\/G[k].op=4:=by
 have h1:=(h.ins k hk).2.2.2.2;have h2:=h.plain k hk;omega
theorem next (h:GOk runes caps G){k:Nat}(hk:k<G.length)(ho:G[k].op=1\/G[k].op=4):k+1<G.length:=by
 rcases Nat.lt_or_ge (k+1) G.length with h1|h1
 ·exact h1
 ·have e:G.length-1=k:=om;have h2:=h.last om;have h3:G[G.length-1]'om=G[k]:=by congr 1
  rw[h3] at h2;omega
theorem jump (h:GOk runes caps G){k:Nat}(hk:k<G.length)(ho:G[k].op=2\/G[k].op=3):∃x:Nat,G[k].x=x/\x<G.length:=by
 have h1:=(h.ins k hk).2.2.2.2;exact⟨G[k].x.toNat,om,om⟩
theorem jump2 (h:GOk runes caps G){k:Nat}(hk:k<G.length)(ho:G[k].op=2):∃y:Nat,G[k].y=y/\y<G.length:=by
 have h1:=(h.ins k hk).2.2.2.2;exact⟨G[k].y.toNat,om,om⟩
end GOk
def SetE (E:List Int)(l:List Sp):Prop:=l.length<=3/\∀s∈l,s.1∈E/\s.2+1∈E
def rimE:List Int:=[0,10,97,98,99,100,256,11]
def HinOk (w0:World)(h:Hin):Prop:=h.wf/\SL w0 h.A h.c h.l/\SetE rimE h.l
structure CdI (w0 base w:World)(T:Nat)(A:Option Addr)(c:Nat)(hs:List Hin):Prop where
 own:OwnS w base.heap.size T 5 A hs.length c (flatN hs)
 ok:∀h∈hs,HinOk w0 h
 ext:Ext base w
end
end Go.Proofs.YtmpcoifnpflapaaGreat
