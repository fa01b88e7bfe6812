/- Texts of this proof: U9 UA UB V4 C4 Z4. -/
import Derived.Test.YtmgpefenkilffaaGreatSW11
set_option linter.all false
set_option maxRecDepth 100000
set_option maxHeartbeats 16000000
namespace Go.Proofs.YtmgpefenkilffaaGreat
section
open Go.RowKit
attribute [local go_sem ↓] Go.wp_at_zero Go.wp_at_succ
theorem infoPr:(Tryz.prog.info? 54).map (fun i=>(i.zero,i.size,i.bytes))=some (some (.agg #[.int .i64 0,.int .i64 0]),2,16):=by kernel_rfl
structure Hst where
 gm:Nat
 RA:Option Addr
 n:Nat
 rc:Nat
 len:Int
 bg:Bool
 cl:Bool
def strC (h:Hst)(op:Int):Array Value:=#[.pointer (some ⟨h.gm,0,none⟩),.slice h.RA h.n h.rc,.int .i64 h.len,.int .i64 op,.bool h.bg,.bool h.cl]
def resP (R:List (Int×Int)):List (Int×Int):=R.filter (fun x=>decide (0<=x.2))
theorem resP_app (R S:List (Int×Int)):resP (R++S)=resP R++resP S:=by simp[resP]
theorem resP_len (R:List (Int×Int)):(resP R).length<=R.length:=List.length_filter_le _ _
def RsAt (w:World)(gr:Nat)(A:Option Addr)(c:Nat)(R:List (Int×Int)):Prop:=Blk w gr 37 #[.slice A R.length c]/\OwnS w 0 54 2 A R.length c (flatS R)
def RsF (gs gr:Nat)(A:Option Addr)(b:Nat):Prop:=b=gs\/b=gr\/A.map (·.block)=some b
structure RsI (w0:World)(z1 z2 gs gr:Nat)(h:Hst)(op:Int)(A0:Option Addr)(R0 R:List (Int×Int))(w:World):Prop where
 b1:Blk w z1 29 #[.pointer (some ⟨gs,0,none⟩)]
 b2:Blk w z2 142 #[.pointer (some ⟨gr,0,none⟩)]
 st:Blk w gs 126 (strC h (IntKind.i64.wrap (op-R.length)))
 rs:∃A c,RsAt w gr A c (R0++resP R)/\(A.map (·.block)=A0.map (·.block)\/∀b,A.map (·.block)=some b->w0.heap.size<=b)
 kp:KpP (RsF gs gr A0) w0 w
theorem resultsC_any (w0:World)(z1 z2 gs gr:Nat)(h:Hst)(op:Int)(A0:Option Addr)(R0:List (Int×Int))(hR0:R0.length<=1000000):VisR z1 z2 (RsI w0 z1 z2 gs gr h op A0 R0):=by
 intro R p e w hI hR hp he ip ie;obtain⟨b1,b2,st,⟨A,c,⟨rs,ow⟩,hA⟩,kp⟩:=hI;obtain⟨v,hv⟩:∃v,v=IntKind.i64.wrap (op-R.length):=⟨_,rfl⟩
 rw[<-hv] at st;have HW:Hid (wrap64 (v-1)=IntKind.i64.wrap (op-(R++[(p,e)]).length)):=lh (by
  unfold wrap64;rw[hv];simp only[IntKind.wrap_i64,List.length_append,List.length_cons,List.length_nil];omega)
 clear hv;have q1:w.cell? ⟨z1,0,none⟩=some (.pointer (some ⟨gs,0,none⟩)):=b1.cell 0;have q3:w.cell? ⟨gs,3,none⟩=some (.int .i64 v):=st.cell 3;have f3:=st.frz 3;have n1:=blk_blk b1 st de;have n2:=blk_blk b2 st de;have nr:=blk_blk rs st de;have nA:=own_blk ow st de;have K1:=lh (KpP.set (p:=RsF gs gr A0) (x:=⟨gs,3,none⟩) kp (.inl (.inl rfl)) (.int .i64 (wrap64 (v-1))));have B1:=lh (b1.far (p:=⟨gs,3,none⟩) n1 (.int .i64 (wrap64 (v-1))));have B2:=lh (b2.far (p:=⟨gs,3,none⟩) n2 (.int .i64 (wrap64 (v-1))));have S1:=lh (st.set 3 (.int .i64 (wrap64 (v-1))));have RS:=lh (rs.far (p:=⟨gs,3,none⟩) nr (.int .i64 (wrap64 (v-1))));have OW:=lh (OwnS.far (p:=⟨gs,3,none⟩) ow nA (.int .i64 (wrap64 (v-1))));have HA:=lh hA;clear b1 b2 st rs ow kp n1 n2 nr nA hA;by_cases he0:e<0
 ·have hr:resP (R++[(p,e)])=resP R:=by rw[resP_app];simp[resP,he0]
  have HF:Hid (RsI w0 z1 z2 gs gr h op A0 R0 (R++[(p,e)]) (w.setCell ⟨gs,3,none⟩ (.int .i64 (wrap64 (v-1))))):=lh ⟨B1.out,B2.out,by rw[<-HW.out];exact S1.out,⟨A,c,⟨by rw[hr];exact RS.out,by rw[hr];exact OW.out⟩,HA.out⟩,K1.out⟩;clear B1 B2 S1 RS OW K1 HW hr;have he1:¬0<=e:=om;go_enter Tryz.func148,Tryz.ntmps148
  go_wp2_with fail
  exact bodyPost_end (v:=.tuple #[]) (by simp[results,Tryz.results148,go_sem]) rfl ⟨rfl,HF.out⟩
 ·have he1:0<=e:=om;have hr:resP (R++[(p,e)])=resP R++[(p,e)]:=by rw[resP_app];simp[resP,he1]
  have HR:=lh (show R0++resP (R++[(p,e)])=(R0++resP R)++[(p,e)] by rw[hr,List.append_assoc]);have hlen:(R0++resP R).length<=2000000:=by have:=resP_len R;rw[List.length_append];omega
  obtain⟨iP,jP0,jP1,jP2,jP3⟩:=info_parts infoPr;have hsz:0<=w.heap.size:=Nat.zero_le _;clear hr;obtain⟨L,hL⟩:∃L,L=R0++resP R:=⟨_,rfl⟩
  rw[<-hL] at RS OW HR hlen;clear hL;go_enter Tryz.func148,Tryz.ntmps148
  go_upto_region 1 with fail
  generalize w.setCell ⟨gs,3,none⟩ (.int .i64 (wrap64 (v-1)))=w1 at *;clear q1 q3 f3
  go_upto_region 2 with fail
  have n2:=blk_blk B2.out RS.out de;have n1:=blk_blk B1.out RS.out de;have nS:=blk_blk S1.out RS.out de;have nA:=own_blk OW.out RS.out de;have nA1:=own_blk OW.out B1.out de;have nA2:=own_blk OW.out B2.out de;have nAS:=own_blk OW.out S1.out de;have z2c:w1.cell? ⟨z2,0,none⟩=some (.pointer (some ⟨gr,0,none⟩)):=B2.out.cell 0;have j2:=fun(w':World) (k:Kp (gr::blkL A) w1 w')=>k.cell z2c (by
   simp only[List.mem_cons,mem_blkL,not_or];exact⟨n2,nA2⟩)
  clear z2c;refine Xr.start (gr::blkL A) kr ?_;refine Xtk 0 ?_
  iterate 2(refine Xtn ?_)
  refine Xtk 4 ?_
  iterate 2(refine Xtn ?_)
  refine Xr.lazy 7 22 8 (fun q=>.slice (some ⟨q,0,none⟩) 1 1) 54 #[.int .i64 p,.int .i64 e] rfl (fun b hb=>?_) dK si (fun w'=>by go_simp) ?_
  ·rcases List.mem_cons.1 hb with rfl|hb
   ·exact RS.out.lt
   ·exact(OwnS.blt OW.out (mem_blkL.1 hb)).1
  refine Xsp 3 fun w4 hE4 hK4 K hKK=>?_;have c44:=(RS.out.ext hE4).cell 0;simp only[List.getElem?_toArray,List.getElem?_cons_zero] at c44;go_simp;refine hKK _ _ (WI_refl _ _ _) hK4 ?_;clear hKK c44;refine ptm ?_;refine Xr.stepZ rfl dK (fun _=>by rfl) (fun w5 g5 hE5 hK5 hg5 hB5 hno K hKK=>?_);have x5:=hE4.trans hE5;refine wp_app _ _ _ _ rfl 0 54 iP (.agg #[.int .i64 0,.int .i64 0]) 2 16 Tryz.underlying37 jP0 jP1 jP2 jP3 rfl om A L.length c (flatS L) rfl (OwnS.ext OW.out x5) _ 1 1 [.int .i64 p,.int .i64 e] rfl rfl (blk_cells hB5) (by intro u hu;simp only[List.mem_cons,List.not_mem_nil,or_false] at hu;rcases hu with rfl|rfl<;>rfl) um om (Nat.zero_le _) ?_;intro A9 c9 w9 ho9 hg9 hat9;refine hKK _ _ (WI_kp (KpP.of_grown hg9) (fun i hi=>List.mem_cons_of_mem _ (mem_blkL.2 hi))) (hK5.kpP (KpP.of_grown hg9) (fun i hi=>List.mem_cons_of_mem _ (mem_blkL.2 hi))) ?_;clear hKK;refine ptm ?_;refine Xtk 9 ?_;have bg9:=(KpP.of_grown hg9).blk (RS.out.ext x5) nA;refine Xsp 10 fun w10 hE10 hK10 K hKK=>?_;have cg10:=(bg9.ext hE10).cell 0;have fg10:=(bg9.ext hE10).frz 0;simp only[List.getElem?_toArray,List.getElem?_cons_zero] at cg10;go_simp;refine hKK _ _ (WI_setL (WI_refl _ _ _) List.mem_cons_self _ _) (hK10.setL List.mem_cons_self _ _) ?_;clear hKK;refine ptm ?_;refine Xdn fun w11 hE11 hK11=>?_;have HF:Hid (RsI w0 z1 z2 gs gr h op A0 R0 (R++[(p,e)]) w11):=lh (by
   have kg:=KpP.of_grown hg9;have hn9:A9.map (·.block)≠some gr:=by
    rcases hat9 with e1|e1
    ·rw[e1];exact nA
    ·rw[e1];intro e2;injection e2 with e2
     have:=(RS.out.ext x5).lt;omega
   have e10:=KpP.of_ext (p:=RsF gs gr A0) hE10;have kk:KpP (RsF gs gr A0) w0 w11:=by
    have hk5:KpP (RsF gs gr A0) w0 w5:=K1.out.trans (KpP.of_ext x5);have hk9:KpP (RsF gs gr A0) w0 w9:=hk5.chain kg (fun i hi=>by
     rcases HA.out with h1|h1
     ·exact .inl (.inr (.inr (by rw[<-h1];exact hi)))
     ·exact .inr (h1 i hi))
    have hk10:=KpP.set (p:=RsF gs gr A0) (x:=⟨gr,0,none⟩) (hk9.trans (KpP.of_ext hE10)) (.inl (.inr (.inl rfl))) (.slice A9 (L.length+1) c9);exact hk10.trans (KpP.of_ext hE11)
   have RSn:=((bg9.ext hE10).set 0 (.slice A9 (L.length+1) c9)).ext hE11;have OWn:=OwnS.ext (OwnS.far (p:=⟨gr,0,none⟩) (OwnS.ext ho9 hE10) hn9 (.slice A9 (L.length+1) c9)) hE11;have b1n:=(((kg.blk (B1.out.ext x5) nA1).ext hE10).far (p:=⟨gr,0,none⟩) n1 (.slice A9 (L.length+1) c9)).ext hE11;have b2n:=(((kg.blk (B2.out.ext x5) nA2).ext hE10).far (p:=⟨gr,0,none⟩) n2 (.slice A9 (L.length+1) c9)).ext hE11;have stn:=(((kg.blk (S1.out.ext x5) nAS).ext hE10).far (p:=⟨gr,0,none⟩) nS (.slice A9 (L.length+1) c9)).ext hE11;have hfl:flatS L++[Value.int .i64 p,Value.int .i64 e]=flatS (L++[(p,e)]):=by rw[flatS_append];simp[flatS]
   refine⟨b1n,b2n,by rw[<-HW.out];exact stn,⟨A9,c9,⟨?_,?_⟩,?_⟩,kk⟩
   ·rw[HR.out,List.length_append];simpa using RSn
   ·rw[HR.out,<-hfl,List.length_append];exact OWn
   ·rcases hat9 with e1|e1
    ·rw[e1];exact HA.out
    ·right
     intro b hb;rw[e1] at hb;injection hb with hb
     have:=K1.out.size;have:=x5.size;omega)
  clear bg9 cg10 fg10 hE11 hK11 ho9 hg9 hat9
  go_wp2_with fail
  exact bodyPost_end (v:=.tuple #[]) (by simp[results,Tryz.results148,go_sem]) rfl ⟨rfl,HF.out⟩
def NoG (w:World)(p:Nat->Prop):Prop:=∀b,p b->∀cs,w.heap[b]?≠some (.cells cs 250 (0,0))/\w.heap[b]?≠some (.cells cs 138 (0,0))
theorem Fo.At.kpT {w w':World}{p:Nat->Prop}(k:KpP p w w')(hp:NoG w p):∀{f:Fo},f.At w->f.At w'
 | .nil,_=>trivial
 | .cons g _ _ A _ kd r,⟨h1,h2,h3,h4,h5,h6,h7,h8,h9⟩=>
  ⟨k.blk h1 (fun hg=>(hp _ hg _).1 h1),OwnS.kp h2 k (fun b hb hg=>by
   obtain⟨_,cur,hh⟩:=OwnS.blt h2 hb;exact(hp _ hg _).2 hh),h3,h4,h5,h6,h7,Fo.At.kpT k hp h8,Fo.At.kpT k hp h9⟩
theorem RsI.ext {w0:World}{z1 z2 gs gr:Nat}{h:Hst}{op:Int}{A0:Option Addr}{R0 R:List (Int×Int)}{w w':World}(hI:RsI w0 z1 z2 gs gr h op A0 R0 R w)(x:Ext w w'):RsI w0 z1 z2 gs gr h op A0 R0 R w':=by
 obtain⟨b1,b2,st,⟨A,c,⟨rs,ow⟩,hA⟩,kp⟩:=hI;exact⟨b1.ext x,b2.ext x,st.ext x,⟨A,c,⟨rs.ext x,OwnS.ext ow x⟩,hA⟩,kp.trans (KpP.of_ext x)⟩
structure RsO (w w':World)(gs gr:Nat)(h:Hst)(op:Int)(A:Option Addr)(R0 pos:List (Int×Int)):Prop where
 st:Blk w' gs 126 (strC h (op-pos.length))
 rs:∃A' c',RsAt w' gr A' c' (R0++resP pos)/\(A'.map (·.block)=A.map (·.block)\/∀b,A'.map (·.block)=some b->w.heap.size<=b)
 kp:KpP (RsF gs gr A) w w'
def RetRs (gs gr:Nat)(h:Hst)(op:Int)(A:Option Addr)(R0 pos:List (Int×Int))(w:World)(e:Ending)(w':World):Prop:=e=.returned (.tuple #[])/\RsO w w' gs gr h op A R0 pos
theorem rsF_noG {w:World}{gs gr:Nat}{h:Hst}{op:Int}{A:Option Addr}{c:Nat}{R:List (Int×Int)}(st:Blk w gs 126 (strC h op))(rs:RsAt w gr A c R):NoG w (RsF gs gr A):=by
 intro b hb cs;rcases hb with rfl|rfl|hb
 ·constructor
  ·intro e;exact blk_blk st e de rfl
  ·intro e;exact blk_blk st e de rfl
 ·constructor
  ·intro e;exact blk_blk rs.1 e de rfl
  ·intro e;exact blk_blk rs.1 e de rfl
 ·constructor
  ·intro e;exact own_blk rs.2 e de hb
  ·intro e;exact own_blk rs.2 e de hb
theorem results_any (gs gr sb b:Nat)(p e:Int)(A1:Option Addr)(c1:Nat)(k:Fo)(h:Hst)(op:Int)(A:Option Addr)(c:Nat)(R0:List (Int×Int))(w:World)(hf:(grp b p e A1 c1 k).At w)(st:Blk w gs 126 (strC h op))(rs:RsAt w gr A c R0)
 (hop : -1000000<=op/\op<=1000000) (hn:((grp b p e A1 c1 k).pos (-1)).length<=1000000) (hR0:R0.length<=1000000) :
 Calls Tryz.prog 72 #[.pointer (some ⟨gs,0,none⟩),.agg #[.pointer (some ⟨sb,0,none⟩),.pointer (some ⟨b,0,none⟩)],.pointer (some ⟨gr,0,none⟩)] w (RetRs gs gr h op A R0 ((grp b p e A1 c1 k).pos (-1)) w):=by
 obtain⟨b1,br,b2,x3⟩:=alloc3 w 29 #[.pointer (some ⟨gs,0,none⟩)] 140 #[.pointer (some ⟨sb,0,none⟩),.pointer (some ⟨b,0,none⟩)] 142 #[.pointer (some ⟨gr,0,none⟩)];have hng:=rsF_noG st rs;have HST:=lh st;have HRS:=lh rs;have HFA:=lh hf;clear st rs hf;obtain⟨F,hF⟩:∃F,F=grp b p e A1 c1 k:=⟨_,rfl⟩;have HPOS:=lh (show(grp b p e A1 c1 k).pos (-1)=F.pos (-1) by rw[hF]);have HNG:=lh hng;go_enter Tryz.func72,Tryz.ntmps72
 go_upto_region 1 with fail
 obtain⟨z1,hz1⟩:∃z,z=w.heap.size:=⟨_,rfl⟩;obtain⟨zr,hzr⟩:∃z,z=w.heap.size+1:=⟨_,rfl⟩;obtain⟨z2,hz2⟩:∃z,z=w.heap.size+1+1:=⟨_,rfl⟩
 rw[<-hz2] at b2 ⊢
 rw[<-hzr] at br ⊢
 rw[<-hz1] at b1 ⊢;clear hz1 hzr hz2 hng;generalize ((w.alloc (.cells #[.pointer (some ⟨gs,0,none⟩)] 29)).alloc (.cells #[.pointer (some ⟨sb,0,none⟩),.pointer (some ⟨b,0,none⟩)] 140)).alloc (.cells #[.pointer (some ⟨gr,0,none⟩)] 142)=w3 at *;have cr:w3.cell? ⟨zr,1,none⟩=some (.pointer (some ⟨b,0,none⟩)):=br.cell 1;have hng3:NoG w3 (RsF gs gr A):=rsF_noG (HST.out.ext x3) (⟨HRS.out.1.ext x3,OwnS.ext HRS.out.2 x3⟩:RsAt w3 gr A c R0);have hfa3:=HFA.out.ext x3;have hI0:RsI w3 z1 z2 gs gr h op A R0 [] w3:=⟨b1,b2,by
  have e:IntKind.i64.wrap (op-(([]:List (Int×Int)).length:Int))=op:=by rw[IntKind.wrap_i64];simp only[List.length_nil];omega
  rw[e];exact HST.out.ext x3,⟨A,c,by
   have e:R0++resP []=R0:=by simp[resP]
   rw[e];exact⟨HRS.out.1.ext x3,OwnS.ext HRS.out.2 x3⟩,.inl rfl⟩,KpP.refl _ _⟩
 have HC:=lh ((eachR z1 z2 (RsI w3 z1 z2 gs gr h op A R0) (fun R w w' hI x=>hI.ext x) (resultsC_any w3 z1 z2 gs gr h op A R0 hR0) (grp b p e A1 c1 k) (fun R w' hI=>Fo.At.kpT hI.kp hng3 hfa3) .nil b p e A1 c1 k .nil rfl (-1) [] w3 hI0 om (by unfold I64;omega) (by simpa using hn)).out);have X3:=lh x3;clear b1 b2 br hng3 hfa3 hI0 x3
 go_wp2_with fail
 refine HC.out.mono ?_;rintro en w4 ⟨rfl,hI⟩;have HO:Hid (RsO w w4 gs gr h op A R0 ((grp b p e A1 c1 k).pos (-1))):=lh (by
  obtain⟨_,_,st,⟨A',c',hr,ha⟩,kp⟩:=hI;rw[List.nil_append] at st hr;have e:IntKind.i64.wrap (op-(((grp b p e A1 c1 k).pos (-1)).length:Int))=op-(((grp b p e A1 c1 k).pos (-1)).length:Int):=wj;rw[e] at st;exact⟨st,⟨A',c',hr,ha.imp id (fun h b hb=>Nat.le_trans X3.out.size (h b hb))⟩,KpP.trans (KpP.of_ext X3.out) kp⟩)
 clear hI
 go_wp2_with fail
 exact bodyPost_end (v:=.tuple #[]) (by simp[results,Tryz.results72,go_sem]) rfl ⟨rfl,HO.out⟩
def OwnPr (w:World)(base:Nat)(A:Option Addr)(c:Nat)(l:List Sp):Prop:=OwnS w base 54 2 A l.length c (flatS l)
theorem wpList_appQ {w:World}{ops:Array Oper}{rest:List Oper}{o:Oper}{a:Act}{Q:Exit->Act->World->Prop}(hgd:o.guard=none)(s x:Operand)(t:Nat)
 (ho:o.op=.call { callee:=.builtin .append,args:=#[s,x],argTypes:=#[t,t] }) (ht:Tryz.prog.underlying t=some (.slice 54))
 (base:Nat) (hb0:base<=w.heap.size) (A:Option Addr) (c n:Nat) (l:List Sp) (hA:a.eval s=.slice A n c) (hn:n=l.length) (hown:OwnPr w base A c l)
 (B:Option Addr) (d k:Nat) (m:List Sp) (hx:a.eval x=.slice B k d) (hk:k=m.length) (hr:CellsAt w B (flatS m)) (hb:l.length+m.length<=1000000) (nk:Nat) (hnk:nk=n+k)
 (h:∀A' c' w',OwnPr w' base A' c' (l++m)->w.grownBy w' (A.map (·.block))->wpList Tryz.prog ops Q rest (a.put o.dst (.slice A' nk c')) w'):wpList Tryz.prog ops Q (o::rest) a w:=by
 obtain⟨iP,jP0,jP1,jP2,jP3⟩:=info_parts infoPr;subst hn hk hnk;refine wpList_app _ hgd s x t ho base 54 iP _ 2 16 ht jP0 jP1 jP2 jP3 rfl om A l.length c (flatS l) hA hown B m.length d (flatS m) hx (flatS_len m) hr (flatS_one m) um om hb0 ?_;intro A' c' w' ho' hg _;refine h A' c' w' ?_ hg;unfold OwnPr;rw[List.length_append,flatS_append];exact ho'
theorem SL.cellsTake {w:World}{A:Option Addr}{c:Nat}{l:List Sp}(h:SL w A c l)(k:Nat):CellsAt w A (flatS (l.take k)):=by
 have h1:=SL.cells h;intro hn;have hl:l.take k≠[]:=by rintro e;rw[e] at hn;exact hn rfl
 obtain⟨b,o,hA,hc⟩:=h1 (by
  intro e;have:=flatS_len l;rw[e] at this;have:l=[]:=List.length_eq_zero_iff.1 (by simp only[List.length_nil] at this;omega);rw[this] at hl;simp at hl)
 refine⟨b,o,hA,fun i hi=>?_⟩;have e:flatS l=flatS (l.take k)++flatS (l.drop k):=by rw[<-flatS_append,List.take_append_drop]
 have hi2:i<(flatS l).length:=by rw[e,List.length_append];omega
 rw[hc i hi2]
 congr 1
 rw[List.getElem_of_eq e hi2,List.getElem_append_left hi]
theorem SL.cellsDrop {w:World}{b o c:Nat}{l:List Sp}(h:SL w (some ⟨b,o,none⟩) c l)(k:Nat):CellsAt w (some ⟨b,o+k*2,none⟩) (flatS (l.drop k)):=by
 have h1:=SL.cells h;intro hn;have hl:l.drop k≠[]:=by rintro e;rw[e] at hn;exact hn rfl
 have hk:k<l.length:=by
  rcases Nat.lt_or_ge k l.length with h2|h2
  ·exact h2
  ·exact absurd (List.drop_of_length_le h2) hl
 obtain⟨b',o',hA,hc⟩:=h1 (by
  intro e;have:=flatS_len l;rw[e] at this;simp only[List.length_nil] at this;omega)
 injection hA with hA
 injection hA with hb ho hr
 subst hb ho;refine⟨b,o+k*2,rfl,fun i hi=>?_⟩;have e:flatS l=flatS (l.take k)++flatS (l.drop k):=by rw[<-flatS_append,List.take_append_drop]
 have ht:(flatS (l.take k)).length=k*2:=by rw[flatS_len,List.length_take];omega
 have hi2:k*2+i<(flatS l).length:=by rw[e,List.length_append,ht];omega
 rw[Nat.add_assoc,hc (k*2+i) hi2]
 congr 1
 rw[List.getElem_of_eq e hi2,List.getElem_append_right om]
 congr 1
 omega
theorem ins_sorted {l:List Sp}{y:Sp}{k:Nat}(hs:l.Pairwise (fun s t=>s.1<=t.1))(h1:∀j (h:j<l.length),k<=j->y.1<l[j].1)(h2:k=0\/∃h:k-1<l.length,l[k-1].1<=y.1) :
 (l.take k++[y]++l.drop k).Pairwise (fun s t=>s.1<=t.1)/\(l.take k++[y]++l.drop k).Perm (l++[y]):=by
 have hs':(l.take k++l.drop k).Pairwise (fun s t=>s.1<=t.1):=by rw[List.take_append_drop];exact hs
 obtain⟨a1,a2,a3⟩:=List.pairwise_append.1 hs';refine⟨?_,?_⟩
 ·rw[List.append_assoc,List.pairwise_append];refine⟨a1,?_,?_⟩
  ·rw[List.singleton_append,List.pairwise_cons];refine⟨fun z hz=>?_,a2⟩;obtain⟨i,hi,rfl⟩:=List.getElem_of_mem hz;rw[List.getElem_drop];exact Int.le_of_lt (h1 _ _ om)
  ·intro x hx z hz;rcases List.mem_append.1 hz with hz|hz
   ·rw[List.mem_singleton.1 hz];rcases h2 with rfl|⟨h,hle⟩
    ·simp at hx
    ·obtain⟨i,hi,rfl⟩:=List.getElem_of_mem hx;rw[List.getElem_take];rw[List.length_take] at hi;rcases Nat.lt_or_ge i (k-1) with h3|h3
     ·exact Int.le_trans ((List.pairwise_iff_getElem.1 hs) i (k-1) om h h3) hle
     ·have:i=k-1:=om;subst this;exact hle
   ·exact a3 x hx z hz
 ·have e:l++[y]=l.take k++l.drop k++[y]:=by rw[List.take_append_drop]
  rw[e,List.append_assoc,List.append_assoc];exact List.Perm.append_left _ List.perm_append_comm
theorem wp_appN {P:Program}{w0 base w:World}{T:Nat}{o:Oper}{a:Act}{K:Act->World->Prop}{Q:Exit->Act->World->Prop}(s x:Operand)(t:Nat)
 (ho:o.op=.call { callee:=.builtin .append,args:=#[s,x],argTypes:=#[t,t] })
 (i:TypeInfo) (ht:P.underlying t=some (.slice T)) (hi:P.info? T=some i) (hz:i.zero=some (.agg #[.int .i64 0,.int .i64 0,.int .i64 0,.int .i64 0,.slice none 0 0]))
 (hsize:i.size=5) (hby:i.bytes=56)
 (A:Option Addr) (c:Nat) (hs:List Hin) (hA:a.eval s=.slice A hs.length c) (hown:CdI w0 base w T A c hs)
 (B:Option Addr) (d:Nat) (ks:List Hin) (hx:a.eval x=.slice B ks.length d) (hr:CellsAt w B (flatN ks)) (hok:∀h∈ks,HinOk w0 h)
 (hb:hs.length+ks.length<=1000000) (ys:List Hin) (hys:ys=hs++ks)
 (h:∀A' c' w',CdI w0 base w' T A' c' ys->(∀b,A.map (·.block)=some b->base.heap.size<=b)->w.grownBy w' (A.map (·.block))->(A'.map (·.block)=A.map (·.block)\/A'.map (·.block)=some w.heap.size)->K (a.put o.dst (.slice A' ys.length c')) w'):o.wp P a w K Q:=by
 have hrow:=OwnS.row hown.own;refine wp_app _ s x t ho base.heap.size T i _ 5 56 ht hi hz hsize hby rfl om A hs.length c (flatN hs) hA hown.own B ks.length d (flatN ks) hx (flatN_len ks) hr (flatN_one ks) um om hown.ext.size ?_;intro A' c' w' ho' hg' hat';have hx':=hown.ext.grown hg' hrow;have hl:ys.length=hs.length+ks.length:=by rw[hys];simp
 rw[<-hl];refine h A' c' w' ⟨?_,?_,hx'⟩ hrow hg' hat'
 ·rw[hl,hys,flatN_append];exact ho'
 ·rw[hys];intro z hz;rcases List.mem_append.1 hz with hz|hz
  ·exact hown.ok z hz
  ·exact hok z hz
theorem RetF.wrap {w0 w w6 w7 w8:World}{gs tn tc st ns fuel:Nat}{tA:Option Addr}{most:Int}{e:Ending}(h:RetF w0 gs tA tn tc most fuel st ns w6 e w7)(x:Ext w w6)(y:Ext w7 w8)(hg:gs<w.heap.size):RetF w0 gs tA tn tc most fuel st ns w e w8:=by
 obtain⟨b,st',em,ns',h1,h2,h3,h4,h5⟩:=h;exact⟨b,st',em,ns',h1,h2.ext y,h3.trans y,(ZF.of_ext x hg).trans (h4.ext y (Nat.lt_of_lt_of_le hg x.size)),h5⟩
theorem RetF.val {w0 w w':World}{gs tn tc st ns fuel:Nat}{tA:Option Addr}{most:Int}{e:Ending}(h:RetF w0 gs tA tn tc most fuel st ns w e w'):∃b:Bool,e=.returned (.bool b):=by
 obtain⟨b,_,_,_,h1,_⟩:=h;exact⟨b,h1⟩
theorem ZF.kpL {gs:Nat}{w w':World}{L:List Nat}(h:ZF gs w w')(e:zL w gs=L):Kp L w w':=e▸h.kp
theorem ZF.wi {gs:Nat}{w w':World}{L:List Nat}{I:List (Nat×Nat)}(h:ZF gs w w')(e:zL w gs=L):WI L I w w':=by
 have k:=h.kpL e;exact⟨k.os,k.tape,k.output,k.size,fun i hi hn=>k.block i hi (fun hm=>hn (.inl hm))⟩
theorem RetF.zf {w0 w w':World}{gs tn tc st ns fuel:Nat}{tA:Option Addr}{most:Int}{e:Ending}(h:RetF w0 gs tA tn tc most fuel st ns w e w'):ZF gs w w':=by
 obtain⟨_,_,_,_,_,_,_,h4,_⟩:=h;exact h4
theorem goal_cells {w:World}{g:Nat}{kind k fr:Int}{nd:Nd}{p:Option Nat}(h:Blk w g 345 (goalC kind nd k fr p)) :
 w.cell? ⟨g,0,none⟩=some (.int .i64 kind)/\w.cell? ⟨g,1,none⟩=some (.int .i64 nd.op)/\w.cell? ⟨g,2,none⟩=some (.slice nd.A nd.l.length nd.c)/\w.cell? ⟨g,3,none⟩=some (.slice nd.K nd.ks.length nd.kc)/\
 w.cell? ⟨g,4,none⟩=some (.int .i64 nd.mn)/\w.cell? ⟨g,5,none⟩=some (.int .i64 nd.mx)/\w.cell? ⟨g,6,none⟩=some (.int .i64 nd.md)/\w.cell? ⟨g,7,none⟩=some (.int .i64 nd.n)/\w.cell? ⟨g,8,none⟩=some (.bool nd.neg)/\
 w.cell? ⟨g,9,none⟩=some (.int .i64 k)/\w.cell? ⟨g,10,none⟩=some (.int .i64 fr)/\w.cell? ⟨g,11,none⟩=some (.pointer (p.map (fun g=>⟨g,0,none⟩))):=
 ⟨h.cell 0,h.cell 1,h.cell 2,h.cell 3,h.cell 4,h.cell 5,h.cell 6,h.cell 7,h.cell 8,h.cell 9,h.cell 10,h.cell 11⟩
theorem zrun_1 (R:Ending->World->Prop)(w:World)(gs g:Nat)(nd:Nd)(k fr:Int)(p:Option Nat)(i:Int)(cA:Option Addr)(cn cc:Nat)(hb:Blk w g 345 (goalC 1 nd k fr p))
 (hR:Calls Tryz.prog 278 #[.pointer (some ⟨gs,0,none⟩),.pointer (some ⟨g,0,none⟩),.int .i64 i,.slice cA cn cc] w R) (hv:∀e w',R e w'->∃b:Bool,e=.returned (.bool b)) :
 Calls Tryz.prog 216 #[.pointer (some ⟨gs,0,none⟩),.pointer (some ⟨g,0,none⟩),.int .i64 i,.slice cA cn cc] w R:=by
 have c0:w.cell? ⟨g,0,none⟩=some (.int .i64 1):=hb.cell 0;have HR:=lh hR;have HV:=lh hv;clear hR hv hb;go_enter Tryz.func216,Tryz.ntmps216
 go_wp2_with (go_at_call 278;refine HR.out.mono ?_;rintro e w2 h2;obtain⟨b,rfl⟩:=HV.out _ _ h2)
 exact h2
theorem zrun_0 (R:Ending->World->Prop)(w:World)(gs g:Nat)(nd:Nd)(k fr:Int)(p:Option Nat)(i:Int)(cA:Option Addr)(cn cc:Nat)(hb:Blk w g 345 (goalC 0 nd k fr p))
 (hR:Calls Tryz.prog 280 #[.pointer (some ⟨gs,0,none⟩),.pointer (some ⟨g,0,none⟩),.int .i64 i,.slice cA cn cc] w R) (hv:∀e w',R e w'->∃b:Bool,e=.returned (.bool b)) :
 Calls Tryz.prog 216 #[.pointer (some ⟨gs,0,none⟩),.pointer (some ⟨g,0,none⟩),.int .i64 i,.slice cA cn cc] w R:=by
 have c0:w.cell? ⟨g,0,none⟩=some (.int .i64 0):=hb.cell 0;have HR:=lh hR;have HV:=lh hv;clear hR hv hb;go_enter Tryz.func216,Tryz.ntmps216
 go_wp2_with (go_at_call 280;refine HR.out.mono ?_;rintro e w2 h2;obtain⟨b,rfl⟩:=HV.out _ _ h2)
 exact h2
theorem Z4z1 {P:Prop} (h:P:=by
 go_upto_region 11 with(go_quiet (fail))
 have xd:=Ext.drewN w nq;have HB1:=lh (hb.ext xd);have HR1:=lh (fun w' g' (x:Ext (w.drewN nq) w')=>HR.out w' g' (xd.trans x));have hzl:=zL_ext xd hgl;have hgl1:gs<(w.drewN nq).heap.size:=Nat.lt_of_lt_of_le hgl xd.size;have HXD:=lh xd;clear c0 c1 c2 c3 c4 c5 c6 c7 c8 c9 c10 c11 hb xd HR;generalize w.drewN nq=wa at *;obtain⟨c0,c1,c2,c3,c4,c5,c6,c7,c8,c9,c10,c11⟩:=goal_cells HB1.out;have k1:=kx0 c1;have k2:=kx0 c2;have k3:=kx0 c3;have k4:=kx0 c4;have k5:=kx0 c5;have k6:=kx0 c6;have k7:=kx0 c7;have k8:=kx0 c8;have k9:=kx0 c9;have k11:=kx0 c11;refine Xs.start (zL wa gs) 18 kr ?_;refine Xst 0 ?_;refine Xst 1 ?_;refine Xst 2 ?_;refine Xst 3 ?_;refine Xst 4 ?_;refine Xst 5 ?_;refine Xst 6 ?_;refine Xst 7 ?_;refine Xst 8 ?_;refine Xst 9 ?_;refine Xst 10 ?_;refine Xst 11 ?_;refine Xst 12 ?_;refine Xst 13 ?_;refine Xst 14 ?_;refine Xst 16 ?_;refine Xst 17 ?_;refine Xscl 15 fun w4 hE4 hX4 K hKK=>?_;have EN:=Ext.alloc w4 (.cells (goalC 1 nd (k+1) 0 p) 345);have BN:=Blk.new w4 345 (goalC 1 nd (k+1) 0 p);go_simp;refine hKK _ _ EN ?_;clear hKK;refine ptm ?_;refine Xs.stop dK (fun w5 hE5 hX5=>?_);refine Xsp 18 fun w6 hE6 hK6 K hKK=>?_;have x6:=hX5.trans hE6;have b6:=(BN.ext hE5).ext hE6;go_simp;refine(HR1.out w6 _ x6 b6).mono ?_;rintro e w7 h7;obtain⟨b,rfl⟩:=h7.val;refine hKK _ _ (h7.zf.wi (zL_ext x6 hgl1)) (hK6.trans (h7.zf.kpL (zL_ext x6 hgl1))) ?_;clear hKK;refine ptm ?_;refine Xtk 19 ?_;refine Xdn fun w8 hE8 hK8=>?_;have HF:=lh (h7.wrap (HXD.out.trans x6) hE8 hgl)
 go_wp2_with fail
 go_ret
 exact HF.out):P:=h
theorem zrun_2 (w0 w:World)(gs:Nat)(tA:Option Addr)(tn tc:Nat)(most:Int)(fuel st ns g:Nat)(nd:Nd)(k fr:Int)(p:Option Nat)(i:Int)(cA:Option Addr)(cn cc:Nat)(hb:Blk w g 345 (goalC 2 nd k fr p))
 (x0:Ext w0 w) (hs:SrM w w0.heap.size gs tA tn tc most fuel st false ns) (hst:st<=fuel) (hk:0<=k/\k<=1000000000)
 (hR:∀w' g',Ext w w'->Blk w' g' 345 (goalC 1 nd (k+1) 0 p)->Calls Tryz.prog 216 #[.pointer (some ⟨gs,0,none⟩),.pointer (some ⟨g',0,none⟩),.int .i64 i,.slice cA cn cc] w' (RetF w0 gs tA tn tc most fuel st ns w')) :
 Calls Tryz.prog 216 #[.pointer (some ⟨gs,0,none⟩),.pointer (some ⟨g,0,none⟩),.int .i64 i,.slice cA cn cc] w (RetF w0 gs tA tn tc most fuel st ns w):=by
 have hgl:=hs.gs_lt;obtain⟨c0,c1,c2,c3,c4,c5,c6,c7,c8,c9,c10,c11⟩:=goal_cells hb;have HR:=lh hR;have HS:=lh hs;have HX:=lh x0;have ewk:IntKind.i64.wrap (k+1)=k+1:=wj;clear hR hs x0;by_cases hm:nd.mn<=k
 ·by_cases hi:i=fr
  ·go_enter Tryz.func216,Tryz.ntmps216;have hi2:(i == fr)=true:=by simp[hi]
   go_wp2_with (go_quiet (fail))
   go_ret
   have xd:=Ext.drewN w nq;exact⟨false,st,false,ns,rfl,HS.out.ext xd,HX.out.trans xd,ZF.of_ext xd hgl,om,om,om,.inl ⟨rfl,hst⟩⟩
  ·go_enter Tryz.func216,Tryz.ntmps216;have hi2:(i == fr)=false:=by simp[hi]
   exact Z4z1
 ·go_enter Tryz.func216,Tryz.ntmps216;exact Z4z1
theorem zrun_3 (w0 w:World)(gs:Nat)(tA:Option Addr)(tn tc:Nat)(most:Int)(fuel st ns g:Nat)(nd:Nd)(k fr:Int)(p:Option Nat)(i:Int)(cA:Option Addr)(cc:Nat)(cl:List Sp)(hb:Blk w g 345 (goalC 3 nd k fr p))
 (x0:Ext w0 w) (hs:SrM w w0.heap.size gs tA tn tc most fuel st false ns) (hc:CapAt w cA cc cl) (hcl:cl.length<=1000) (hn:I64 nd.n) (hf:I64 fr) (hi:I64 i)
 (hR:∀w' cA' cc' cl',Ext w w'->CapAt w' cA' cc' cl'->cl'.length=cl.length->Calls Tryz.prog 216 #[.pointer (some ⟨gs,0,none⟩),.pointer (p.map (fun g=>⟨g,0,none⟩)),.int .i64 i,.slice cA' cl'.length cc'] w' (RetF w0 gs tA tn tc most fuel st ns w')) :
 Calls Tryz.prog 216 #[.pointer (some ⟨gs,0,none⟩),.pointer (some ⟨g,0,none⟩),.int .i64 i,.slice cA cl.length cc] w (RetF w0 gs tA tn tc most fuel st ns w):=by
 have hgl:=hs.gs_lt;obtain⟨c0,c1,c2,c3,c4,c5,c6,c7,c8,c9,c10,c11⟩:=goal_cells hb;have HR:=lh hR;have HI:=lh (⟨hn,hf,hi⟩:I64 nd.n/\I64 fr/\I64 i);have HC:=lh hc;have k7:=kx0 c7;have k10:=kx0 c10;have k11:=kx0 c11;clear hR hs x0 hc hn hf hi hb;go_enter Tryz.func216,Tryz.ntmps216
 go_upto_region 13 with fail
 refine Xs.start (zL w gs) 18 kr ?_;refine Xst 0 ?_;refine Xst 1 ?_;refine Xst 2 ?_;refine Xst 3 ?_;refine Xst 4 ?_;refine Xst 5 ?_;refine Xst 6 ?_;refine Xst 7 ?_;refine Xst 8 ?_;refine Xst 9 ?_;refine Xst 10 ?_;refine Xst 11 ?_;refine Xst 12 ?_;refine Xst 13 ?_;refine Xst 14 ?_;refine Xst 15 ?_;refine Xst 16 ?_;refine Xscl 17 fun w4 hE4 hX4 K hKK=>?_;go_simp;refine(zwith_any w4 cA cc cl nd.n fr i (HC.out.ext hX4) hcl HI.out.1 HI.out.2.1 HI.out.2.2).mono ?_;rintro e w5 ⟨cA5,cc5,cl5,rfl,hl5,hc5,x5⟩;refine hKK _ _ x5 ?_;clear hKK;refine ptm ?_;refine Xs.stop dK (fun w5 hE5 hX5=>?_);refine Xsp 18 fun w6 hE6 hK6 K hKK=>?_;have x6:=hX5.trans hE6;have b6:=(hc5.ext hE5).ext hE6;go_simp;have HRR:=HR.out w6 _ _ _ x6 b6 hl5;rw[hl5] at HRR;refine HRR.mono ?_;rintro e w7 h7;obtain⟨b,rfl⟩:=h7.val;refine hKK _ _ (h7.zf.wi (zL_ext x6 hgl)) (hK6.trans (h7.zf.kpL (zL_ext x6 hgl))) ?_;clear hKK;refine ptm ?_;refine Xtk 19 ?_;refine Xdn fun w8 hE8 hK8=>?_;have HF:=lh (h7.wrap x6 hE8 hgl)
 go_wp2_with fail
 go_ret
 exact HF.out
end
end Go.Proofs.YtmgpefenkilffaaGreat
