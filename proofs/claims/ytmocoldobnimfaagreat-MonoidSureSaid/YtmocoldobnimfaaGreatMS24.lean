/- Texts of this proof: Y10 Y11 Y12 Y13 Y28. -/
import Derived.Test.YtmocoldobnimfaaGreatMS20
import Derived.Laws.CopyRow
import Derived.Laws.IdiomCopy
set_option linter.all false
set_option maxRecDepth 100000
set_option maxHeartbeats 16000000
namespace Go.Proofs.YtmocoldobnimfaaGreat
section
open Go.RowKit
attribute [local go_sem ↓] Go.wp_at_zero Go.wp_at_succ
theorem DO (f h:Nat->Int)(la lb n:Nat)(hn:n=la+lb):(WQ f la n).take la++upF h lb++(WQ f la n).drop (la+lb)=upF (fun j=>if j<la then f j else h (j-la)) n:=by
 subst hn;apply List.ext_getElem
 ·simp[WQ,upF]
 ·intro j h1 h2;have hj:j<la+lb:=by simpa[upF] using h2
  have hd:(WQ f la (la+lb)).drop (la+lb)=[]:=List.drop_eq_nil_of_le (by rw[Kz];omega);have htl:((WQ f la (la+lb)).take la).length=la:=by rw[List.length_take,Kz];omega
  simp only[hd,List.append_nil];by_cases hjl:j<la
  ·rw[List.getElem_append_left om];simp[WQ,upF,hjl]
  ·rw[List.getElem_append_right om];simp only[htl];simp[upF,hjl]
def XH (f h:Nat->Int)(la k n:Nat):List Int:=upF (fun j=>if j<k then f j else h (j-la)) n
theorem NW (f h:Nat->Int)(la lb n:Nat)(hn:n=la+lb):(WQ f la n).take la++upF h lb++(WQ f la n).drop (la+lb)=XH f h la la n:=DO f h la lb n hn
theorem GH (f h:Nat->Int)(la k n:Nat):(XH f h la k n).length=n:=by simp[XH,upF]
theorem TN (f h:Nat->Int)(la k n:Nat):(XH f h la k n).set k (f k)=XH f h la (k+1) n:=by
 apply List.ext_getElem
 ·simp[XH,upF]
 ·intro j h1 h2;rw[List.getElem_set];simp only[XH,upF,List.getElem_map,List.getElem_range];by_cases e:k=j
  ·subst e;simp
  ·rw[if_neg e];by_cases h3:j<k
   ·rw[if_pos h3,if_pos om]
   ·rw[if_neg h3,if_neg om]
theorem Pk (f h:Nat->Int)(la k n:Nat)(e:f k=h (k-la)):XH f h la k n=XH f h la (k+1) n:=by
 refine YL (fun j _=>?_);by_cases h3:j<k
 ·rw[if_pos h3,if_pos om]
 ·rw[if_neg h3];by_cases h4:j=k
  ·subst h4;rw[if_pos om,e]
  ·rw[if_neg om]
theorem TO (f h:Nat->Int)(la n:Nat):XH f h la n n=upF f n:=YL (fun j hj=>by rw[if_pos hj])
theorem TP {f h:Nat->Int}{la k n:Nat}(hk:k<n):(XH f h la k n)[k]'(by rw[GH];exact hk)=h (k-la):=by simp[XH,upF]
section
variable {P:Program}
theorem GI {o:Oper}{a:Act}{K:Act->World->Prop}{Q:Exit->Act->World->Prop}(w:World)(d s:Operand)(dT elem:TypeId)
 (ho:o.op=.call { callee:=.builtin .copy,args:=#[d,s],argTypes:=#[dT,dT] }) (hu:P.underlying dT=some (.slice elem)) (hsz:(P.info? elem).map (·.size)=some 1)
 (D A:Option Addr) (dl dc c g off T:Nat) (xs ys:List Int) (hd:a.eval d=.slice D dl dc) (hs:a.eval s=.slice A ys.length c) (hb:Blk w g T (W0 xs)) (hfit:off+ys.length<=xs.length)
 (hD:ys≠[]->D=some ⟨g,off,none⟩) (hdl:dl=ys.length) (hA:KL w A c ys)
 (h:∀w',Blk w' g T (W0 (xs.take off++ys++xs.drop (off+ys.length)))->KpP (·=g) w w'->K (a.put o.dst (goInt ys.length)) w'):o.wp P a w K Q:=by
 subst hdl;by_cases h0:ys=[]
 ·subst h0;have hrun:=run_copy_none (P:=P) w dT dT o.type elem D A 0 dc 0 c hu hsz rfl;have hk:=h w (by simpa using hb) (KpP.refl _ _);unfold Oper.wp execOp;simp only[List.length_nil] at hd hs;simp only[ho,resolve,invoke,builtin,Sem.run_bind,Sem.run_pure,Result.andThen_ok,List.map_toArray,List.map_cons,List.map_nil,hs,hd,hrun];exact hk
 ·obtain⟨b,of,rfl,hc⟩:=hA.at_ h0;have e:=hD h0;subst e;have hrun:=run_copy_row (P:=P) w dT dT o.type elem g off ys.length dc ⟨b,of,none⟩ ys.length c (W0 xs) T (ys.map (Value.int .i32)) hu hsz hb si (fun j v hv=>by
   obtain⟨hj,rfl⟩:=List.getElem?_eq_some_iff.1 hv;rw[Addr.add_lit];simp only[List.getElem_map];exact hc j (by simpa using hj)) (by simp[W0];omega) (fun v hv=>by
   obtain⟨x,_,rfl⟩:=List.mem_map.1 hv
   rfl)
  have e2:((W0 xs).toList.take off++ys.map (Value.int .i32)++(W0 xs).toList.drop (off+(ys.map (Value.int .i32)).length)).toArray=W0 (xs.take off++ys++xs.drop (off+ys.length)):=by
   simp[W0,List.map_take,List.map_drop]
  rw[e2] at hrun;have hk:=h (w.setRow g (W0 (xs.take off++ys++xs.drop (off+ys.length)))) (setRow_heap w g _ _ T _ hb) ⟨rfl,rfl,rfl,by simp[World.setRow],fun k hk hn=>setRow_other w g k _ hn⟩;unfold Oper.wp execOp;simp only[ho,resolve,invoke,builtin,Sem.run_bind,Sem.run_pure,Result.andThen_ok,List.map_toArray,List.map_cons,List.map_nil,hs,hd,hrun];rw[List.length_map];exact hk
end
theorem GL {L:List Nat}{I:List (Nat×Nat)}{w w':World}{g:Nat}(k:KpP (·=g) w w')(hg:g∈L):WI L I w w':=
 ⟨k.os,k.tape,k.output,k.size,fun i hi hn=>k.block i hi (fun e=>hn (Or.inl (e▸hg)))⟩
theorem Kp.thenP {L:List Nat}{a w w':World}{g:Nat}(h:Kp L a w)(k:KpP (·=g) w w')(hg:g∈L):Kp L a w':=
 h.trans ⟨k.os,k.tape,k.output,k.size,fun i hi hn=>k.block i hi (fun e=>hn (e▸hg))⟩
theorem Ext.thenQ {a w w':World}{g:Nat}(h:Ext a w)(k:KpP (·=g) w w')(hg:a.heap.size<=g):Ext a w':=
 ⟨k.os.trans h.os,k.tape.trans h.tape,k.output.trans h.output,Nat.le_trans h.size k.size,fun i hi=>(k.block i (Nat.lt_of_lt_of_le hi h.size) (fun e=>by have e2:i=g:=e;omega)).trans (h.block i hi)⟩
theorem KpP.blkN {w w':World}{g b T:Nat}{cs:Array Value}(k:KpP (·=g) w w')(h:Blk w b T cs)(hb:b≠g):Blk w' b T cs:=(k.block b h.lt hb).trans h
theorem WhI.copy3 {wr w' w0:World}{g N n gs b1 b2 b3 b4:Nat}{t l s e s':List Int}(h:WhI wr w0 g N n gs b1 b2 b3 b4 t l s e)(hb:Blk w' b3 21 (W0 s'))(k:KpP (·=b3) wr w'):WhI w' w0 g N n gs b1 b2 b3 b4 t l s' e:=by
 obtain⟨n1,n2,n3,n4,n5,n6,n7,n8,n9,n10⟩:=h.ne;exact⟨k.blkN h.bs n3,k.blkN h.k1 n6,k.blkN h.k2 n8,hb,k.blkN h.k4 n10.symm,h.nd,h.lo⟩
theorem WhI.copy4 {wr w' w0:World}{g N n gs b1 b2 b3 b4:Nat}{t l s e e':List Int}(h:WhI wr w0 g N n gs b1 b2 b3 b4 t l s e)(hb:Blk w' b4 21 (W0 e'))(k:KpP (·=b4) wr w'):WhI w' w0 g N n gs b1 b2 b3 b4 t l s e':=by
 obtain⟨n1,n2,n3,n4,n5,n6,n7,n8,n9,n10⟩:=h.ne;exact⟨k.blkN h.bs n4,k.blkN h.k1 n7,k.blkN h.k2 n9,k.blkN h.k3 n10,hb,h.nd,h.lo⟩
structure SmC (w:World)(m:Ma)(g ga:Nat)(cl:List Nat)(A1 A2 A3 A4:Option Addr)(c1 c2 c3 c4:Nat):Prop where
 blk:Blk w ga 154 #[.pointer (some ⟨g,0,none⟩),.int .i64 cl.length,.slice A1 m.next.length c1,.slice A2 m.next.length c2,.slice A3 cl.length c3,.slice A4 cl.length c4]
 tg:KL w A1 c1 (upF (tgF m cl) m.next.length)
 la:KL w A2 c2 (upF (laF m cl) m.next.length)
 st:KL w A3 c3 (upF (stF m cl) cl.length)
 en:KL w A4 c4 (upF (enF m cl) cl.length)
theorem SmC.ext {w w':World}{m:Ma}{g ga:Nat}{cl:List Nat}{A1 A2 A3 A4:Option Addr}{c1 c2 c3 c4:Nat}(h:SmC w m g ga cl A1 A2 A3 A4 c1 c2 c3 c4)(x:Ext w w'):SmC w' m g ga cl A1 A2 A3 A4 c1 c2 c3 c4:=
 ⟨h.blk.ext x,h.tg.ext x,h.la.ext x,h.st.ext x,h.en.ext x⟩
theorem SmC.of {w:World}{m:Ma}{g ga:Nat}{cl:List Nat}{s:Sm}(h:Kw w ga s)(k:JQ m g cl s):SmC w m g ga cl s.tA s.lA s.sA s.eA s.tc s.lc s.sc s.ec:=by
 obtain⟨k1,k2,k3,k4,k5,k6⟩:=k;obtain⟨h1,h2,h3,h4,h5⟩:=h;rw[k3] at h2;rw[k4] at h3;rw[k5] at h4;rw[k6] at h5;refine⟨?_,h2,h3,h4,h5⟩;unfold By at h1;rw[k1,k2,k3,k4,k5,k6,Wz,Wz,Wz,Wz] at h1;exact h1
theorem KL.getF {w:World}{A:Option Addr}{c n i:Nat}{f:Nat->Int}(h:KL w A c (upF f n))(hi:i<n):∃b o,A=some ⟨b,o,none⟩/\w.cell? ⟨b,o+i,none⟩=some (.int .i32 (f i)):=by
 obtain⟨b,o,hA,hc⟩:=h.get (k:=i) (by rw[Wz];exact hi);rw[bY] at hc;exact⟨b,o,hA,hc⟩
theorem FY {P:Prop} (h:P:=by
 have h6:=World.block_lt_of_cell? _ _ h';injection e' with e';injection e' with e7 e8
 simp only at h6;omega):P:=h
theorem U3 {P:Prop} (h:P:=by
 have h5:lb≠0:=fun h0=>hne (List.length_eq_zero_iff.1 (by rw[Wz,HLB.out];exact h0));have h6:=HN.out;unfold WS;rw[if_neg om,Option.map_some,Addr.add_lit,Nat.zero_add]):P:=h
theorem U4 {P:Prop} (h:P:=by
 clear c6 f6 c7 f7 W6 W7 W8
 go_wp2_with fail
 go_roundw
 case rel=>exact⟨i+1,by go_num,om,HW8,y8⟩
 case measure=>simp[intOf];omega):P:=h
theorem TR (w:World)(g:Nat)(m:Ma)(nc:Nat)(hm:V9 w g m)(ok:VB nc m)(ga gb:Nat)(ca cb:List Nat)(A1 A2 A3 A4 B1 B2 B3 B4:Option Addr)(c1 c2 c3 c4 d1 d2 d3 d4:Nat)
 (ha:SmC w m g ga ca A1 A2 A3 A4 c1 c2 c3 c4) (hb:SmC w m g gb cb B1 B2 B3 B4 d1 d2 d3 d4) (hca:∀c∈ca,c<nc) (hcb:∀c∈cb,c<nc) (hlen:ca.length+cb.length<=1000000)
 (HAFT:∀w',Ext w w'->∀st la:Int,-1<=st->st<m.next.length->Calls Tryz.prog 132 #[.pointer (some ⟨ga,0,none⟩),.pointer (some ⟨gb,0,none⟩),.int .i32 st,.int .i32 la] w' (QD (.tuple #[.int .i32 (Y0 ca.length (upF (tgF m cb) m.next.length) (upF (laF m cb) m.next.length) st la).1,.int .i32 (Y0 ca.length (upF (tgF m cb) m.next.length) (upF (laF m cb) m.next.length) st la).2]) w')) :
 Calls Tryz.prog 82 #[.pointer (some ⟨g,0,none⟩),.pointer (some ⟨ga,0,none⟩),.pointer (some ⟨gb,0,none⟩)] w (YN m g (ca++cb) w):=by
 have hN:=ok.len;obtain⟨n,hn⟩:∃n,n=ca.length+cb.length:=⟨_,rfl⟩;have HN:=lh hn;have HBK:=fun(w':World) (x:Ext w w')=>lh (Dk w' g m nc (hm.ext x) ok n om);have HM:=lh hm;have HO:=lh ok;have HA:=lh ha;have HB:=lh hb;have HCA:=lh hca;have HCB:=lh hcb;have HAF0:=lh HAFT;have HTG:=fun(i:Nat) (hi:i<m.next.length)=>lh (TW m nc ok ca cb hca hi);have HTR:=fun(i:Nat) (hi:i<m.next.length)=>BO ok hca hi;have HST:=fun(k:Nat) (hk:k<=ca.length)=>lh (TZ m nc ok ca cb hca hk);have HSR:=fun(k:Nat)=>jK ok hca k;have HS3:Hid (upF (fun j=>if j<ca.length then stF m (ca++cb) j else stF m cb (j-ca.length)) n=upF (stF m (ca++cb)) n):=lh (YL (fun j hj=>by
  by_cases h:j<ca.length
  ·rw[if_pos h]
  ·rw[if_neg h];have h2:=(Dw m ca cb (j-ca.length)).1;rw[show ca.length+(j-ca.length)=j by omega] at h2;exact h2.symm))
 have HER:=fun(k:Nat) (hk:ca.length<=k)=>(show enF m (ca++cb) k=(if enF m cb (k-ca.length) = -1 then -1 else(ca.length:Int)+enF m cb (k-ca.length)) by
  have h2:=(Dw m ca cb (k-ca.length)).2;rw[show ca.length+(k-ca.length)=k by omega] at h2;exact h2)
 have HXR:=fun(j:Nat) (hj:j<=cb.length)=>jV (m:=m) (cl:=cb) hj;have hal:ca.length<=n:=om;have hnl:n<=1000000:=om;have hw0:IntKind.i64.wrap ((ca.length:Int)+cb.length)=(n:Int):=wj;have qa1:w.cell? ⟨ga,1,none⟩=some (.int .i64 ca.length):=ha.blk.cell 1;have qb1:w.cell? ⟨gb,1,none⟩=some (.int .i64 cb.length):=hb.blk.cell 1;have hgal:=ha.blk.lt;have hgbl:=hb.blk.lt;clear hm ok ha hb hca hcb hn HAFT;generalize hla:ca.length=la at *;generalize hlb:cb.length=lb at *;have HLA:=lh hla;have HLB:=lh hlb;clear hla hlb;have ja1:=kc0 qa1;have jb1:=kc0 qb1;go_enter Tryz.func82,Tryz.ntmps82
 go_upto_region 1 with fail
 refine Xr.start [] kr ?_;refine Xtk 0 ?_
 iterate 9(refine Xtn ?_)
 refine Xcl 10 fun w1 hE1 hK1 K hKK=>?_;go_simp;refine(HBK w1 hE1).out.mono ?_;rintro e w2 hbk;obtain⟨gs,b1,b2,b3,b4,rfl,hW,x2⟩:=WhI.of_blank hbk;refine hKK _ _ x2 ?_;clear hKK hbk HBK;refine ptm ?_;refine Xtk 11 ?_;refine Xdn fun w3 hE3 hK3=>?_;have X1:=hE1;have X3:=(hE1.trans x2).trans hE3;obtain⟨n1,n2,n3,n4,-,-,-,-,-,-⟩:=hW.ne;have hlow:=hW.low;have hlow2:=hE1.size;have l1:w.heap.size<=b1:=om;have l2:w.heap.size<=b2:=om;have l3:w.heap.size<=b3:=om;have l4:w.heap.size<=b4:=om;have hW3:WhI w3 w g m.next.length n gs b1 b2 b3 b4 (List.replicate m.next.length 0) (List.replicate m.next.length 0) (List.replicate n 0) (List.replicate n 0):=⟨(hW.ext hE3).bs,(hW.ext hE3).k1,(hW.ext hE3).k2,(hW.ext hE3).k3,(hW.ext hE3).k4,hW.nd,fun b hb=>by have:=hW.lo b hb;omega⟩;have hr2:=hW3.bs.cell 2;have HW0:Hid (WhI w3 w g m.next.length n gs b1 b2 b3 b4 (WQ (tgF m (ca++cb)) 0 m.next.length) (WQ (laF m (ca++cb)) 0 m.next.length) (WQ (stF m (ca++cb)) 0 n) (WQ (enF m (ca++cb)) 0 n)):=lh (by rw[KI,KI,KI,KI];exact hW3);clear hW hW3 hE1 hK1 x2 hE3 hK3 ja1 jb1 hlow hlow2
 go_upto_region 3 with fail
 clear hr2
 go_loopw [27] (fun v wr=>∃i:Nat,v=.int .i64 i/\i<=m.next.length/\Hid (WhI wr w g m.next.length n gs b1 b2 b3 b4 (WQ (tgF m (ca++cb)) i m.next.length) (WQ (laF m (ca++cb)) i m.next.length) (WQ (stF m (ca++cb)) 0 n) (WQ (enF m (ca++cb)) 0 n))/\Ext w wr) (fun v _=>m.next.length-(intOf v).toNat)
 case atStart=>exact⟨0,rfl,om,HW0,X3⟩
 case round=>
  obtain⟨i,rfl,hi,HW,y1⟩:=hrel;have HAr:=lh (HA.out.ext y1);by_cases hlt2:i<m.next.length
  ·have hiI:(i:Int)<m.next.length:=om;have HAF:=fun(w':World) (x:Ext wr w')=>lh (show Calls Tryz.prog 132 #[.pointer (some ⟨ga,0,none⟩),.pointer (some ⟨gb,0,none⟩),.int .i32 (tgF m ca i),.int .i32 (laF m ca i)] w' (QD (.tuple #[.int .i32 (tgF m (ca++cb) i),.int .i32 (laF m (ca++cb) i)]) w') by
    have h9:=HAF0.out w' (y1.trans x) (tgF m ca i) (laF m ca i) (HTR i hlt2).1 (HTR i hlt2).2
    rw[(HTG i hlt2).out] at h9;exact h9)
   obtain⟨tb,tt,hA1,e1⟩:=HAr.out.tg.getF hlt2;obtain⟨ub,uu,hA2,e2⟩:=HAr.out.la.getF hlt2;have qa2:wr.cell? ⟨ga,2,none⟩=some (.slice A1 m.next.length c1):=HAr.out.blk.cell 2;have qa3:wr.cell? ⟨ga,3,none⟩=some (.slice A2 m.next.length c2):=HAr.out.blk.cell 3;have hc1:=HAr.out.tg.len;have hc2:=HAr.out.la.len;rw[Wz] at hc1 hc2;have HAo:=HA.out;have htb:tb<w.heap.size:=by
    obtain⟨b',o',e',h'⟩:=HAo.tg.getF hlt2;rw[hA1] at e';exact FY
   have hub:ub<w.heap.size:=by
    obtain⟨b',o',e',h'⟩:=HAo.la.getF hlt2;rw[hA2] at e';exact FY
   rw[hA1] at qa2;rw[hA2] at qa3;generalize tgF m ca i=v1 at *;generalize laF m ca i=v2 at *;clear HAo hA1 hA2;have j2:=fun(w':World) (h:Kp [b1,b2] wr w')=>h.cell (HW.out.bs.cell 2) (by simp[n1,n2]);have j3:=fun(w':World) (h:Kp [b1,b2] wr w')=>h.cell (HW.out.bs.cell 3) (by simp[n1,n2]);have ja2:=fun(w':World) (h:Kp [b1,b2] wr w')=>h.cell qa2 (by simp;omega);have ja3:=fun(w':World) (h:Kp [b1,b2] wr w')=>h.cell qa3 (by simp;omega);have je1:=fun(w':World) (h:Kp [b1,b2] wr w')=>h.cell e1 (by simp;omega);have je2:=fun(w':World) (h:Kp [b1,b2] wr w')=>h.cell e2 (by simp;omega)
   go_upto_region 5 with fail
   refine Xr.start [b1,b2] kr ?_;refine Xtk 0 ?_
   iterate 25(refine Xtn ?_)
   refine Xcl 26 fun w4 hE4 hK4 K hKK=>?_;go_simp;refine(HAF w4 hE4).out.mono ?_;rintro e w5 ⟨rfl,x5⟩;refine hKK _ _ x5 ?_;clear hKK;refine ptm ?_;refine Xtk 27 ?_
   iterate 3(refine Xtn ?_)
   have E45:=hE4.trans x5;refine Xsp 31 fun w6 hE6 hK6 K hKK=>?_;have W6:=HW.out.ext (E45.trans hE6);have c6:=W6.k1.cellK (i:=i) (by rw[Kz];exact hlt2);have f6:=W6.k1.frz i;go_simp;refine hKK _ _ (QM (Q4 _ _ _) List.mem_cons_self _ _) (hK6.setL List.mem_cons_self _ _) ?_;clear hKK;refine ptm ?_;refine Xtk 32 ?_;refine Xsp 33 fun w7 hE7 hK7 K hKK=>?_;have W7:=(W6.set1 i (tgF m (ca++cb) i)).ext hE7;have c7:=W7.k2.cellK (i:=i) (by rw[Kz];exact hlt2);have f7:=W7.k2.frz i;go_simp;refine hKK _ _ (QM (Q4 _ _ _) (List.mem_cons_of_mem _ List.mem_cons_self) _ _) (hK7.setL (List.mem_cons_of_mem _ List.mem_cons_self) _ _) ?_;clear hKK;refine ptm ?_;refine Xdn fun w8 hE8 hK8=>?_;have W8:=(W7.set2 i (laF m (ca++cb) i)).ext hE8;rw[Jk,Jk] at W8;have HW8:=lh W8;have y8:Ext w w8:=((((y1.trans (E45.trans hE6)).setNew (p:=⟨b1,i,none⟩) l1 _).trans hE7).setNew (p:=⟨b2,i,none⟩) l2 _).trans hE8;exact U4
  ·have hiI:¬(i:Int)<m.next.length:=om;obtain rfl:i=m.next.length:=om;have qa4:wr.cell? ⟨ga,4,none⟩=some (.slice A3 la c3):=by
    have:=HAr.out.blk.cell 4
    rw[<-HLA.out];exact this
   go_upto_region 8 with fail
   clear qa4
   go_loopw [68] (fun v wr=>∃i:Nat,v=.int .i64 i/\i<=la/\Hid (WhI wr w g m.next.length n gs b1 b2 b3 b4 (WQ (tgF m (ca++cb)) m.next.length m.next.length) (WQ (laF m (ca++cb)) m.next.length m.next.length) (WQ (stF m (ca++cb)) i n) (WQ (enF m (ca++cb)) i n))/\Ext w wr) (fun v _=>la-(intOf v).toNat)
   case atStart=>exact⟨0,rfl,om,HW,y1⟩
   case round=>
    obtain⟨i,rfl,hi,HW,y1⟩:=hrel;have HAr:=lh (HA.out.ext y1);by_cases hlt3:i<la
    ·have hiI:(i:Int)<la:=om;have hin:i<n:=om;have hil:i<ca.length:=by rw[HLA.out];exact hlt3
     have HAF:=fun(w':World) (x:Ext wr w')=>lh (show Calls Tryz.prog 132 #[.pointer (some ⟨ga,0,none⟩),.pointer (some ⟨gb,0,none⟩),.int .i32 (stF m ca i),.int .i32 (enF m ca i)] w' (QD (.tuple #[.int .i32 (stF m (ca++cb) i),.int .i32 (enF m (ca++cb) i)]) w') by
      have h9:=HAF0.out w' (y1.trans x) (stF m ca i) (enF m ca i) (HSR i).1 (HSR i).2
      rw[(HST i om).out] at h9;exact h9)
     obtain⟨tb,tt,hA3,e1⟩:=HAr.out.st.getF hil;obtain⟨ub,uu,hA4,e2⟩:=HAr.out.en.getF hil;have qa4:wr.cell? ⟨ga,4,none⟩=some (.slice A3 la c3):=by
      have:=HAr.out.blk.cell 4
      rw[<-HLA.out];exact this
     have qa5:wr.cell? ⟨ga,5,none⟩=some (.slice A4 la c4):=by
      have:=HAr.out.blk.cell 5
      rw[<-HLA.out];exact this
     have hc3:=HAr.out.st.len;have hc4:=HAr.out.en.len;rw[Wz,HLA.out] at hc3 hc4;have HAo:=HA.out;have htb:tb<w.heap.size:=by
      obtain⟨b',o',e',h'⟩:=HAo.st.getF hil;rw[hA3] at e';exact FY
     have hub:ub<w.heap.size:=by
      obtain⟨b',o',e',h'⟩:=HAo.en.getF hil;rw[hA4] at e';exact FY
     rw[hA3] at qa4;rw[hA4] at qa5;generalize stF m ca i=v1 at *;generalize enF m ca i=v2 at *;clear HAo hA3 hA4 hil;have j2:=fun(w':World) (h:Kp [b3,b4] wr w')=>h.cell (HW.out.bs.cell 4) (by simp[n3,n4]);have j3:=fun(w':World) (h:Kp [b3,b4] wr w')=>h.cell (HW.out.bs.cell 5) (by simp[n3,n4]);have ja2:=fun(w':World) (h:Kp [b3,b4] wr w')=>h.cell qa4 (by simp;omega);have ja3:=fun(w':World) (h:Kp [b3,b4] wr w')=>h.cell qa5 (by simp;omega);have je1:=fun(w':World) (h:Kp [b3,b4] wr w')=>h.cell e1 (by simp;omega);have je2:=fun(w':World) (h:Kp [b3,b4] wr w')=>h.cell e2 (by simp;omega)
     go_upto_region 10 with fail
     refine Xr.start [b3,b4] kr ?_;refine Xtk 0 ?_
     iterate 25(refine Xtn ?_)
     refine Xcl 26 fun w4 hE4 hK4 K hKK=>?_;go_simp;refine(HAF w4 hE4).out.mono ?_;rintro e w5 ⟨rfl,x5⟩;refine hKK _ _ x5 ?_;clear hKK;refine ptm ?_;refine Xtk 27 ?_
     iterate 3(refine Xtn ?_)
     have E45:=hE4.trans x5;refine Xsp 31 fun w6 hE6 hK6 K hKK=>?_;have W6:=HW.out.ext (E45.trans hE6);have c6:=W6.k3.cellK (i:=i) (by rw[Kz];exact hin);have f6:=W6.k3.frz i;go_simp;refine hKK _ _ (QM (Q4 _ _ _) List.mem_cons_self _ _) (hK6.setL List.mem_cons_self _ _) ?_;clear hKK;refine ptm ?_;refine Xtk 32 ?_;refine Xsp 33 fun w7 hE7 hK7 K hKK=>?_;have W7:=(W6.set3 i (stF m (ca++cb) i)).ext hE7;have c7:=W7.k4.cellK (i:=i) (by rw[Kz];exact hin);have f7:=W7.k4.frz i;go_simp;refine hKK _ _ (QM (Q4 _ _ _) (List.mem_cons_of_mem _ List.mem_cons_self) _ _) (hK7.setL (List.mem_cons_of_mem _ List.mem_cons_self) _ _) ?_;clear hKK;refine ptm ?_;refine Xdn fun w8 hE8 hK8=>?_;have W8:=(W7.set4 i (enF m (ca++cb) i)).ext hE8;rw[Jk,Jk] at W8;have HW8:=lh W8;have y8:Ext w w8:=((((y1.trans (E45.trans hE6)).setNew (p:=⟨b3,i,none⟩) l3 _).trans hE7).setNew (p:=⟨b4,i,none⟩) l4 _).trans hE8;exact U4
    ·have hiI:¬(i:Int)<la:=om;obtain rfl:la=i:=om;have HBr:=lh (HB.out.ext y1);have qa1':=y1.cell qa1;have qb4:wr.cell? ⟨gb,4,none⟩=some (.slice B3 lb d3):=by
      have:=HBr.out.blk.cell 4
      rw[<-HLB.out];exact this
     have hd3:=HBr.out.st.len;rw[Wz,HLB.out] at hd3;have j2:=fun(w':World) (h:Kp [b3] wr w')=>h.cell (HW.out.bs.cell 4) (by simp[n3]);have ja1:=fun(w':World) (h:Kp [b3] wr w')=>h.cell qa1' (by simp;omega);have jb4:=fun(w':World) (h:Kp [b3] wr w')=>h.cell qb4 (by simp;omega);have hilI:(la:Int)<=n:=om
     go_upto_region 12 with fail
     refine Xr.start [b3] kr ?_;refine Xtk 0 ?_
     iterate 7(refine Xtn ?_)
     refine Xr.take 8 (some 112) (v:=.slice (WS (some ⟨b3,0,none⟩) n la) (n-la) (n-la)) rfl rfl dK (by rfl) (fun w' hk=>?_) ?_
     ·by_cases hcc:n=la
      ·have hd:WS (some ⟨b3,0,none⟩) n la=some ⟨b3,0,none⟩:=by unfold WS;rw[if_pos hcc]
       rw[hd];go_simp
      ·have hd:WS (some ⟨b3,0,none⟩) n la=some ⟨b3,la,none⟩:=by unfold WS;rw[if_neg hcc,Option.map_some,Addr.add_lit,Nat.zero_add]
       rw[hd];go_simp
     refine ptm ?_;refine Xtk 9 ?_
     iterate 3(refine Xtn ?_)
     refine Xsp 13 fun w6 hE6 hK6 K hKK=>?_;refine GI w6 (.tmp 112) (.tmp 116) 152 21 rfl Tryz.underlying152 kr (WS (some ⟨b3,0,none⟩) n la) B3 (n-la) (n-la) d3 b3 la 21 (WQ (stF m (ca++cb)) la n) (upF (stF m cb) cb.length) (by go_simp) (by go_simp;rw[Wz,HLB.out]) (HW.out.ext hE6).k3 (by rw[Kz,Wz,HLB.out];have:=HN.out;omega) (fun hne=>?_) (by rw[Wz,HLB.out];have:=HN.out;omega) (HBr.out.ext hE6).st (fun w7 hb7 hk7=>?_)
     ·exact U3
     refine hKK _ _ (GL hk7 List.mem_cons_self) (hK6.thenP hk7 List.mem_cons_self) ?_;clear hKK;refine ptm ?_;refine Xdn fun w8 hE8 hK8=>?_;have W8:=((HW.out.ext hE6).copy3 hb7 hk7).ext hE8;rw[Wz,HLB.out,DO _ _ la lb n HN.out,HS3.out] at W8;have y8:Ext w w8:=((y1.trans hE6).thenQ hk7 l3).trans hE8;have HW8:=lh W8;clear W8 HW HAr HBr qa1' qb4 hd3 j2 ja1 jb4 hb7 hk7 hE6 hK6 hE8 hK8;have HBr:=lh (HB.out.ext y8);have qa1':=y8.cell qa1;have qb5:w8.cell? ⟨gb,5,none⟩=some (.slice B4 lb d4):=by
      have:=HBr.out.blk.cell 5
      rw[<-HLB.out];exact this
     have hd4:=HBr.out.en.len;rw[Wz,HLB.out] at hd4;have j2:=fun(w':World) (h:Kp [b4] w8 w')=>h.cell (HW8.out.bs.cell 5) (by simp[n4]);have ja1:=fun(w':World) (h:Kp [b4] w8 w')=>h.cell qa1' (by simp;omega);have jb4:=fun(w':World) (h:Kp [b4] w8 w')=>h.cell qb5 (by simp;omega)
     go_upto_region 13 with fail
     refine Xr.start [b4] kr ?_;refine Xtk 0 ?_
     iterate 7(refine Xtn ?_)
     refine Xr.take 8 (some 126) (v:=.slice (WS (some ⟨b4,0,none⟩) n la) (n-la) (n-la)) rfl rfl dK (by rfl) (fun w' hk=>?_) ?_
     ·by_cases hcc:n=la
      ·have hd:WS (some ⟨b4,0,none⟩) n la=some ⟨b4,0,none⟩:=by unfold WS;rw[if_pos hcc]
       rw[hd];go_simp
      ·have hd:WS (some ⟨b4,0,none⟩) n la=some ⟨b4,la,none⟩:=by unfold WS;rw[if_neg hcc,Option.map_some,Addr.add_lit,Nat.zero_add]
       rw[hd];go_simp
     refine ptm ?_;refine Xtk 9 ?_
     iterate 3(refine Xtn ?_)
     refine Xsp 13 fun w6 hE6 hK6 K hKK=>?_;refine GI w6 (.tmp 126) (.tmp 130) 152 21 rfl Tryz.underlying152 kr (WS (some ⟨b4,0,none⟩) n la) B4 (n-la) (n-la) d4 b4 la 21 (WQ (enF m (ca++cb)) la n) (upF (enF m cb) cb.length) (by go_simp) (by go_simp;rw[Wz,HLB.out]) (HW8.out.ext hE6).k4 (by rw[Kz,Wz,HLB.out];have:=HN.out;omega) (fun hne=>?_) (by rw[Wz,HLB.out];have:=HN.out;omega) (HBr.out.ext hE6).en (fun w7 hb7 hk7=>?_)
     ·exact U3
     refine hKK _ _ (GL hk7 List.mem_cons_self) (hK6.thenP hk7 List.mem_cons_self) ?_;clear hKK;refine ptm ?_;refine Xdn fun w9 hE9 hK9=>?_;have W9:=((HW8.out.ext hE6).copy4 hb7 hk7).ext hE9;rw[Wz,HLB.out,NW _ _ la lb n HN.out] at W9;have y9:Ext w w9:=((y8.trans hE6).thenQ hk7 l4).trans hE9;have HW9:Hid (WhI w9 w g m.next.length n gs b1 b2 b3 b4 (WQ (tgF m (ca++cb)) m.next.length m.next.length) (WQ (laF m (ca++cb)) m.next.length m.next.length) (upF (stF m (ca++cb)) n) (XH (enF m (ca++cb)) (enF m cb) la la n)):=lh W9;clear W9 HW8 HBr qa1' qb5 hd4 j2 ja1 jb4 hb7 hk7 hE6 hK6 hE9 hK9;have qa1':=y9.cell qa1
     go_upto_region 15 with fail
     clear qa1'
     go_loopw [10] (fun v wr=>∃k:Nat,v=.int .i64 k/\la<=k/\k<=n/\Hid (WhI wr w g m.next.length n gs b1 b2 b3 b4 (WQ (tgF m (ca++cb)) m.next.length m.next.length) (WQ (laF m (ca++cb)) m.next.length m.next.length) (upF (stF m (ca++cb)) n) (XH (enF m (ca++cb)) (enF m cb) la k n))/\Ext w wr) (fun v _=>n-(intOf v).toNat)
     case atStart=>exact⟨la,rfl,Nat.le_refl _,om,HW9,y9⟩
     case round=>
      obtain⟨k,rfl,hk0,hk,HW,y1⟩:=hrel;have g1:wr.cell? ⟨gs,1,none⟩=some (.int .i64 n):=HW.out.bs.cell 1;by_cases hlt4:k<n
      ·have hkI:(k:Int)<n:=om;have g5:wr.cell? ⟨gs,5,none⟩=some (.slice (some ⟨b4,0,none⟩) n n):=HW.out.bs.cell 5;have gk:=HW.out.k4.cellK (i:=k) (by rw[GH];exact hlt4);rw[TP hlt4] at gk;have hr0:=HER k hk0;have hxr:=HXR (k-la) (by have:=HN.out;omega);obtain⟨x,hx0⟩:∃x,Hid (enF m cb (k-la)=x):=⟨_,lh rfl⟩;rw[hx0.out] at gk hr0 hxr;have HR:=lh hr0;clear hr0;have qa1':=y1.cell qa1;by_cases hx:x = -1
       ·subst hx;have HW2:=HW.out;rw[Pk _ _ _ _ _ (by rw[HR.out,hx0.out,if_pos rfl])] at HW2;have HW3:=lh HW2;clear HW2 HR
        go_wp2_with fail
        go_roundw
        case rel=>exact⟨k+1,by go_num,om,om,HW3,y1⟩
        case measure=>simp[intOf];omega
       ·have HV:Hid (enF m (ca++cb) k=x+la):=lh (by rw[HR.out,if_neg hx];omega);have hw1:IntKind.i32.wrap (la:Int)=la:=by rw[IntKind.wrap_i32];omega
        have hw2:IntKind.i32.wrap (x+la)=x+la:=by rw[IntKind.wrap_i32];omega
        have kq1:=kx0 g5;have kq2:=kx0 gk;have kq3:=kx0 qa1';clear HR
        go_upto_region 18 with fail
        refine Xs.start [b4] 14 kr ?_;refine Xst 0 ?_;refine Xst 1 ?_;refine Xst 2 ?_;refine Xst 3 ?_;refine Xst 4 ?_;refine Xst 5 ?_;refine Xst 6 ?_;refine Xst 7 ?_;refine Xst 8 ?_;refine Xst 9 ?_;refine Xst 10 ?_;refine Xst 11 ?_;refine Xst 12 ?_;refine Xst 13 ?_;refine Xs.stop dK (fun w6 hE6 hX6=>?_);refine Xsp 14 fun w7 hE7 hK7 K hKK=>?_;have x67:=hX6.trans hE7;have W7:=HW.out.ext x67;have hc7:=x67.cell gk;have hz7:=W7.k4.frz k;go_simp;refine hKK _ _ (QM (Q4 _ _ _) List.mem_cons_self _ _) (hK7.setL List.mem_cons_self _ _) ?_;clear hKK;refine ptm ?_;refine Xdn fun w8 hE8 hK8=>?_;have W8:=(W7.set4 k (x+la)).ext hE8
        rw[<-HV.out,TN] at W8;have HW8:=lh W8
        rw[<-HV.out] at hE8;have y8:Ext w w8:=((y1.trans x67).setNew (p:=⟨b4,k,none⟩) l4 _).trans hE8;clear W7 W8 hc7 hz7 kq1 kq2 kq3
        go_wp2_with fail
        go_roundw
        case rel=>exact⟨k+1,by go_num,om,om,HW8,y8⟩
        case measure=>simp[intOf];omega
      ·have hkI:¬(k:Int)<n:=om;obtain rfl:n=k:=om;have hW:=HW.out;rw[TO,VD _ _ _ (Nat.le_refl _),VD _ _ _ (Nat.le_refl _)] at hW;have HLN:(ca++cb).length=n:=by rw[List.length_append,HLA.out,HLB.out,HN.out]
       have HSM:∃s,Kw wr gs s/\JQ m g (ca++cb) s:=by
        refine WhI.sum HO.out (fun c hc=>(List.mem_append.1 hc).elim (HCA.out c) (HCB.out c)) (by rw[HLN];exact hnl) (w0:=w) (b1:=b1) (b2:=b2) (b3:=b3) (b4:=b4) ?_;rw[HLN];exact hW
       have HSH:=lh HSM;clear hW HSM HLN
       go_wp2_with fail
       go_ret
       obtain⟨s,h1,h2⟩:=HSH.out;exact⟨gs,s,rfl,h1,h2,y1⟩
theorem IL.takeQ {w:World}{A:Option Addr}{c k:Nat}{xs:List Int}(h:IL w A c xs)(hk:k<=xs.length):IL w A c (xs.take k):=by
 have h1:=h.le;refine⟨by rw[List.length_take];omega,h.cap,fun x hx=>h.rng x (List.mem_of_mem_take hx),fun hn=>?_⟩;obtain⟨b,o,rfl,hc⟩:=h.at_ (by rintro rfl;simp at hn);refine⟨b,o,rfl,fun i hi=>?_⟩;rw[List.getElem_take];exact hc i (by rw[List.length_take] at hi;omega)
theorem GM (w:World)(g:Nat)(m:Ma)(nc:Nat)(hm:V9 w g m)(ok:VB nc m)(ga gb:Nat)(sa sb:Sm)(ca cb:List Nat)(ha:Kw w ga sa)(ka:JQ m g ca sa)(hb:Kw w gb sb)(kb:JQ m g cb sb)
 (hca:∀c∈ca,c<nc) (hcb:∀c∈cb,c<nc) (hlen:ca.length+cb.length<=1000000) :
 Calls Tryz.prog 82 #[.pointer (some ⟨g,0,none⟩),.pointer (some ⟨ga,0,none⟩),.pointer (some ⟨gb,0,none⟩)] w (YN m g (ca++cb) w):=by
 refine TR w g m nc hm ok ga gb ca cb _ _ _ _ _ _ _ _ _ _ _ _ _ _ _ _ (SmC.of ha ka) (SmC.of hb kb) hca hcb hlen (fun w' x st la h0 h1=>?_);have h:=OP w' ga gb sa sb (ha.ext x) (hb.ext x) (by rw[ka.len];omega) (by rw[kb.last,kb.tg,Wz,Wz]) (fun y hy=>by
  rw[kb.last] at hy;obtain⟨i,hi,rfl⟩:=LH hy;have:=LI (m:=m) (cl:=cb) i;omega) st la h0 (by rw[kb.tg,Wz];exact h1)
 rw[ka.len,kb.tg,kb.last] at h;exact h
theorem xj (w:World)(g:Nat)(m:Ma)(nc:Nat)(strt:List Sp)(hM:JA w g m nc strt)(cf:Int->Nat)(T:Option Addr)(tc:Nat)(ts:List Int)(hT:IL w T tc ts)(hcf:qO strt nc cf ts)(h32:ts.length<=32) :
 Calls Tryz.prog 80 #[.pointer (some ⟨g,0,none⟩),.slice T ts.length tc] w (YN m g (ts.map cf) w):=by
 have HW:=lh (Dy w g m nc strt hM cf T tc ts hT om hcf);have hI:(ts.length:Int)<=32:=om;have hcap:=hT.len;clear hM hT hcf;go_enter Tryz.func80,Tryz.ntmps80
 go_upto_region 3 with fail
 refine HW.out.mono ?_;rintro e w1 ⟨gs,s,rfl,h1,h2,x⟩
 go_wp2_with fail
 go_ret
 exact⟨gs,s,rfl,h1,h2,x⟩
theorem Pv (g:Nat)(m:Ma)(nc:Nat)(strt:List Sp)(cf:Int->Nat):∀(f:Nat) (w:World),JA w g m nc strt->∀(T:Option Addr) (tc:Nat) (ts:List Int),IL w T tc ts->ts.length<=f->ts.length<=1000000->qO strt nc cf ts->
 Calls Tryz.prog 80 #[.pointer (some ⟨g,0,none⟩),.slice T ts.length tc] w (YN m g (ts.map cf) w):=by
 intro f;induction f with
 | zero=>exact fun w hM T tc ts hT hf _ hcf=>xj w g m nc strt hM cf T tc ts hT hcf om
 | succ f ih=>
  intro w hM T tc ts hT hf htl hcf;by_cases h32:ts.length<=32
  ·exact xj w g m nc strt hM cf T tc ts hT hcf h32
  ·have hI:¬(ts.length:Int)<=32:=om;obtain⟨half,hhalf⟩:∃half,half=ts.length / 2:=⟨_,rfl⟩;have hcap:=hT.len;have hdv:IntKind.i64.wrap ((ts.length:Int) / 2)=(half:Int):=wj;have hb1:half<=ts.length:=om;have hb2:half<tc:=om;have hl1:(ts.take half).length=half:=by rw[List.length_take];omega
   have hl2:(ts.drop half).length=ts.length-half:=List.length_drop;have HP1:=fun(w':World) (x:Ext w w')=>lh (show Calls Tryz.prog 80 #[.pointer (some ⟨g,0,none⟩),.slice T half tc] w' (YN m g ((ts.take half).map cf) w') by
    have h:=ih w' (hM.ext x) T tc (ts.take half) ((hT.ext x).takeQ hb1) om om (fun y hy=>hcf y (List.mem_of_mem_take hy));rw[hl1] at h;exact h)
   have HP2:=fun(w':World) (x:Ext w w')=>lh (show Calls Tryz.prog 80 #[.pointer (some ⟨g,0,none⟩),.slice (WS T tc half) (ts.length-half) (tc-half)] w' (YN m g ((ts.drop half).map cf) w') by
    have h:=ih w' (hM.ext x) (WS T tc half) (tc-half) (ts.drop half) ((hT.ext x).dropN hb1) om om (fun y hy=>hcf y (List.mem_of_mem_drop hy));rw[hl2] at h;exact h)
   have HJ:=fun(w':World) (x:Ext w w') (ga gb:Nat) (sa sb:Sm) (ha:Kw w' ga sa) (ka:JQ m g ((ts.take half).map cf) sa) (hb:Kw w' gb sb) (kb:JQ m g ((ts.drop half).map cf) sb)=>
    lh (show Calls Tryz.prog 82 #[.pointer (some ⟨g,0,none⟩),.pointer (some ⟨ga,0,none⟩),.pointer (some ⟨gb,0,none⟩)] w' (YN m g (ts.map cf) w') by
     have h:=GM w' g m nc (hM.ext x).at_ hM.ok ga gb sa sb _ _ ha ka hb kb (fun c hc=>by obtain⟨y,hy,rfl⟩:=List.mem_map.1 hc;exact(hcf y (List.mem_of_mem_take hy)).2) (fun c hc=>by obtain⟨y,hy,rfl⟩:=List.mem_map.1 hc;exact(hcf y (List.mem_of_mem_drop hy)).2) (by rw[List.length_map,List.length_map,hl1,hl2];omega)
     rw[<-List.map_append,List.take_append_drop] at h;exact h)
   have hbI:(half:Int)<=ts.length:=om;have hbI2:(half:Int)<=tc:=om;have hcc:tc≠half:=om;have HHF:=lh hhalf;clear hM hT hcf hhalf hl1 hl2 ih;go_enter Tryz.func80,Tryz.ntmps80
   go_upto_region 4 with fail
   refine Xr.start [] kr ?_;refine Xtk 0 ?_
   iterate 3(refine Xtn ?_)
   refine Xr.take 4 (some 19) (v:=.slice T half tc) rfl rfl dK (by rfl) (fun w' hk=>by go_simp) ?_;refine ptm ?_;refine Xtk 6 ?_
   iterate 2(refine Xtn ?_)
   refine Xr.take 9 (some 24) (v:=.slice (WS T tc half) (ts.length-half) (tc-half)) rfl rfl dK (by rfl) (fun w' hk=>?_) ?_
   ·have hd:WS T tc half=T.map (fun x=>x.add half):=by unfold WS;rw[if_neg hcc]
    rw[hd];go_simp
   refine ptm ?_;refine Xcl 5 fun w1 hE1 hK1 K hKK=>?_;go_simp;refine(HP1 w1 hE1).out.mono ?_;rintro e w2 ⟨ga,sa,rfl,ha,ka,x2⟩;refine hKK _ _ x2 ?_;clear hKK;refine ptm ?_;refine Xcl 10 fun w3 hE3 hK3 K hKK=>?_;go_simp;refine(HP2 w3 ((hE1.trans x2).trans hE3)).out.mono ?_;rintro e w4 ⟨gb,sb,rfl,hb,kb,x4⟩;refine hKK _ _ x4 ?_;clear hKK;refine ptm ?_;refine Xcl 11 fun w5 hE5 hK5 K hKK=>?_;go_simp;refine(HJ w5 ((((hE1.trans x2).trans hE3).trans x4).trans hE5) ga gb sa sb (ha.ext ((hE3.trans x4).trans hE5)) ka (hb.ext hE5) kb).out.mono ?_;rintro e w6 ⟨gs,s,rfl,hs,ks,x6⟩;refine hKK _ _ x6 ?_;clear hKK;refine ptm ?_;refine Xtk 12 ?_;refine Xdn fun w7 hE7 hK7=>?_;have hs7:=hs.ext hE7;have X7:=(((((hE1.trans x2).trans hE3).trans x4).trans hE5).trans x6).trans hE7;clear HP1 HP2 HJ ha ka hb kb hs
   go_wp2_with fail
   go_ret
   exact⟨gs,s,rfl,hs7,ks,X7⟩
def Xj (m:Ma)(g:Nat)(cl:List Nat)(w:World)(e:Ending)(w':World):Prop:=∃(gs:Nat) (s:Sm),e=.returned (.tuple #[.pointer (some ⟨gs,0,none⟩),.int .i64 0])/\Kw w' gs s/\JQ m g cl s/\Ext w w'
theorem cy (w:World)(g:Nat)(m:Ma)(nc:Nat)(strt:List Sp)(hM:JA w g m nc strt)(cf:Int->Nat)(T:Option Addr)(tc:Nat)(ts:List Int)(hT:IL w T tc ts)(hv:XC m.runes ts=0)(htl:ts.length<=1000000)(hcf:qO strt nc cf ts) :
 Calls Tryz.prog 26 #[.pointer (some ⟨g,0,none⟩),.slice T ts.length tc] w (Xj m g (ts.map cf) w):=by
 have HV:=lh (jI T tc ts m.runes w hT);rw[hv] at HV;have HP:=fun(w':World) (x:Ext w w')=>lh (Pv g m nc strt cf ts.length w' (hM.ext x) T tc ts (hT.ext x) (Nat.le_refl _) htl hcf);have c0:w.cell? ⟨g,0,none⟩=some (.bool m.runes):=hM.at_.blk.cell 0;have hcap:=hT.len;clear hM hT hcf hv;go_enter Tryz.func26,Tryz.ntmps26
 go_upto_region 2 with fail
 refine HV.out.mono ?_;rintro e w1 ⟨rfl,x1⟩
 go_upto_region 5 with fail
 refine(HP w1 x1).out.mono ?_;rintro e w2 ⟨gs,s,rfl,h1,h2,x⟩
 go_wp2_with fail
 go_ret2
 exact⟨gs,s,rfl,h1,h2,x1.trans x⟩
theorem I3 (w:World)(g:Nat)(m:Ma)(nc:Nat)(strt:List Sp)(hM:JA w g m nc strt)(cf:Int->Nat)(x:Int)(hx:I64 x)(hv:XC m.runes [x]=0)(hcf:qO strt nc cf [x]) :
 Calls Tryz.prog 36 #[.pointer (some ⟨g,0,none⟩),.int .i64 x] w (Xj m g [cf x] w):=by
 have EX:=Ext.alloc w (.cells #[.int .i64 x] 3);have hT:IL (w.alloc (.cells #[.int .i64 x] 3)) (some ⟨w.heap.size,0,none⟩) 1 [x]:=IL.one (x:=x) (Blk.new _ _ _) hx;generalize hw0:w.alloc (.cells #[.int .i64 x] 3)=w0 at *;have HV:=lh (jI _ _ [x] m.runes w0 hT);rw[hv] at HV;have HP:=fun(w':World) (y:Ext w0 w')=>lh (Dy w' g m nc strt (hM.ext (EX.trans y)) cf _ _ [x] (hT.ext y) si hcf);have c0:w0.cell? ⟨g,0,none⟩=some (.bool m.runes):=(hM.at_.ext EX).blk.cell 0;simp only[List.length_cons,List.length_nil,Nat.zero_add,List.map_cons,List.map_nil] at HV HP;clear hM hT hcf hv;have HW0:=lh hw0;clear hw0;go_enter Tryz.func36,Tryz.ntmps36
 go_upto_region 2 with fail
 rw[HW0.out]
 go_upto_region 3 with fail
 refine HV.out.mono ?_;rintro e w1 ⟨rfl,x1⟩
 go_upto_region 5 with fail
 refine(HP w1 x1).out.mono ?_;rintro e w2 ⟨gs,s,rfl,h1,h2,x⟩
 go_wp2_with fail
 go_ret2
 exact⟨gs,s,rfl,h1,h2,(EX.trans x1).trans x⟩
theorem Pw (w:World)(g:Nat)(m:Ma)(nc:Nat)(hm:V9 w g m)(ok:VB nc m)(ga gb:Nat)(sa sb:Sm)(ca cb:List Nat)(ha:Kw w ga sa)(ka:JQ m g ca sa)(hb:Kw w gb sb)(kb:JQ m g cb sb)
 (hca:∀c∈ca,c<nc) (hcb:∀c∈cb,c<nc) (hlen:ca.length+cb.length<=65536) :
 Calls Tryz.prog 27 #[.pointer (some ⟨g,0,none⟩),.pointer (some ⟨ga,0,none⟩),.pointer (some ⟨gb,0,none⟩)] w (Xj m g (ca++cb) w):=by
 have H1:=fun(w':World) (x:Ext w w')=>lh (show Calls Tryz.prog 81 #[.pointer (some ⟨g,0,none⟩),.pointer (some ⟨ga,0,none⟩)] w' (QD (.bool true) w') by
  have h:=jN w' g ga sa (ha.ext x) _ _ _ _ (hm.ext x).blk (by rw[ka.mch];exact(hm.ext x).blk);rw[ka.mch,decide_eq_true rfl] at h;exact h)
 have H2:=fun(w':World) (x:Ext w w')=>lh (show Calls Tryz.prog 81 #[.pointer (some ⟨g,0,none⟩),.pointer (some ⟨gb,0,none⟩)] w' (QD (.bool true) w') by
  have h:=jN w' g gb sb (hb.ext x) _ _ _ _ (hm.ext x).blk (by rw[kb.mch];exact(hm.ext x).blk);rw[kb.mch,decide_eq_true rfl] at h;exact h)
 have HJ:=fun(w':World) (x:Ext w w')=>lh (GM w' g m nc (hm.ext x) ok ga gb sa sb ca cb (ha.ext x) ka (hb.ext x) kb hca hcb om);have qa1:w.cell? ⟨ga,1,none⟩=some (.int .i64 ca.length):=by rw[<-ka.len];exact ha.blk.cell 1
 have qb1:w.cell? ⟨gb,1,none⟩=some (.int .i64 cb.length):=by rw[<-kb.len];exact hb.blk.cell 1
 have hI:¬(65536:Int)<(ca.length:Int)+cb.length:=om;have hwr:IntKind.i64.wrap ((ca.length:Int)+cb.length)=(ca.length:Int)+cb.length:=wj;clear hm ok ha ka hb kb hca hcb;go_enter Tryz.func27,Tryz.ntmps27
 go_upto_region 2 with fail
 refine(H1 w (Ext.rfl' _)).out.mono ?_;rintro e w1 ⟨rfl,x1⟩
 go_wp2_with fail
 refine(H2 w1 x1).out.mono ?_;rintro e w2 ⟨rfl,x2⟩;have X2:=x1.trans x2;have ra1:=X2.cell qa1;have rb1:=X2.cell qb1;clear H1 H2 qa1 qb1;have ja1:=kc0 ra1;have jb1:=kc0 rb1
 go_upto_region 3 with fail
 refine Xr.start [] kr ?_;refine Xtk 0 ?_
 iterate 9(refine Xtn ?_)
 refine Xdn fun w3 hE3 hK3=>?_;have X3:=X2.trans hE3;clear ja1 jb1 ra1 rb1
 go_upto_region 6 with fail
 refine(HJ w3 X3).out.mono ?_;rintro e w4 ⟨gs,s,rfl,h1,h2,x4⟩
 go_wp2_with fail
 go_ret2
 exact⟨gs,s,rfl,h1,h2,X3.trans x4⟩
def ZM (m:Ma)(cl:List Nat)(fits:Int->Bool):Nat->List Sp
 | 0=>[]
 | k+1=>ZM m cl fits k++(if(enF m cl k≠-1/\fits (stF m cl k)=true) then[((k:Int),enF m cl k)] else[])
theorem yw (m:Ma)(cl:List Nat)(fits:Int->Bool):∀k,(ZM m cl fits k).length<=k
 | 0=>Nat.le_refl _
 | k+1=>by
  have:=yw m cl fits k;rw[ZM,List.length_append]
  split<;>simp<;>omega
def ZE (m:Ma)(cl:List Nat)(fits:Int->Bool):List Sp:=
 ZM m cl fits cl.length++(if(m.first≠-1/\m.dn m.first=true/\fits m.first=true) then[((cl.length:Int),(cl.length:Int))] else[])
theorem GN (m:Ma)(cl:List Nat)(fits:Int->Bool)(h:cl.length<=1000000):∀k,k<=cl.length->∀s∈ZM m cl fits k,S64 s
 | 0,_,s,hs=>by simp[ZM] at hs
 | k+1,hk,s,hs=>by
  rw[ZM] at hs;rcases List.mem_append.1 hs with hs|hs
  ·exact GN m cl fits h k om s hs
  ·split at hs
   ·have:s=((k:Int),enF m cl k):=by simpa using hs
    subst this;have h1:=jV (m:=m) (cl:=cl) (k:=k) om;unfold S64 I64;simp only;omega
   ·simp at hs
theorem xv (m:Ma)(cl:List Nat)(fits:Int->Bool)(h:cl.length<=1000000):∀s∈ZE m cl fits,S64 s:=fun s hs=>by
 unfold ZE at hs;rcases List.mem_append.1 hs with hs|hs
 ·exact GN m cl fits h _ (Nat.le_refl _) s hs
 ·split at hs
  ·have:s=((cl.length:Int),(cl.length:Int)):=by simpa using hs
   subst this;unfold S64 I64;simp only;omega
  ·simp at hs
theorem U5 {P:Prop} (h:P:=by
 clear HSS hf
 go_upto_region 8 with fail
 refine Xr.start [] kr ?_;refine Xtk 0 ?_
 iterate 5(refine Xtn ?_)
 iterate 10(first|refine Xtn ?_|refine Xsn ?_)
 iterate 2(refine Xtn ?_)
 iterate 5(first|refine Xtn ?_|refine Xsn ?_)
 refine Xcl 23 fun w3 hE3 hK3 K hKK=>?_;go_simp;refine(HC w3 hE3).out.mono ?_;rintro e w4 ⟨rfl,x4⟩;refine hKK _ _ x4 ?_;clear hKK;refine ptm ?_;refine Xtk 24 ?_;refine Xdn fun w9 hE9 hK9=>?_;have x9:Ext w w9:=x1.trans ((hE3.trans x4).trans hE9);have HB9:=lh (QQ.ext HB.out ((hE3.trans x4).trans hE9));have q1:w9.cell? ⟨ga,1,none⟩=some (.int .i64 n):=by
  have:=(HA.out.ext x9).blk.cell 1
  rw[<-hn.out];exact this
 have kq1:=kx0 q1;clear jf jd je c2 cd c4d HC hE3 hK3 x4 hE9 hK9 HB HAr
 go_upto_region 9 with fail
 refine Xs.start (jE B) 11 kr ?_;refine Xst 0 ?_;refine Xst 1 ?_;refine Xst 2 ?_;refine Xst 3 ?_;refine Xst 4 ?_;refine Xst 5 ?_;refine Xst 6 ?_;refine Xst 7 ?_;refine Xst 8 ?_;refine Xst 9 ?_;refine jD 10 fun w4 hE4 hX4 K hKK=>?_;go_simp;have bS:=Blk.new w4 82 (Qz [((n:Int),(n:Int))]).toArray;refine hKK _ _ (Ext.alloc _ _) ?_;clear hKK;refine ptm ?_;refine Xs.stop dK (fun w5 hE5 hX5=>?_);refine Xsp 11 fun w6 hE6 hK6 K hKK=>?_;have x6:=hX5.trans hE6;have b6:=(bS.ext hE5).ext hE6;have HO6:=QQ.ext HB9.out x6;refine VT _ _ _ _ rfl w.heap.size 82 iA (.agg #[.int .i64 0,.int .i64 0]) 2 16 Tryz.underlying65 jA0 jA1 jA2 jA3 rfl om B U.length d (Qz U) rfl HO6 _ 1 1 (Qz [((n:Int),(n:Int))]) rfl rfl (QC b6) (ZG _) um om (x9.trans x6).size ?_;intro X' cX' w7 ho7 hg7 hat7;refine hKK _ _ (FV (KpP.of_grown hg7) (fun i hi=>Jq.2 hi)) (hK6.kpP (KpP.of_grown hg7) (fun i hi=>Jq.2 hi)) ?_;clear hKK;refine ptm ?_;refine Xtk 12 ?_;refine Xdn fun w8 hE8 hK8=>?_;have X8:=(Ext.app (x9.trans x6) HO6 hg7).trans hE8;have HO8:=lh (QQ.ext ho7 hE8);have HL3:=lh (show(U++[((n:Int),(n:Int))]).length=U.length+1 by simp);clear ho7 hg7 hat7 HO6 b6 bS hE4 hX4 hE5 hX5 hE6 hK6 x6 hE8 hK8 kq1 q1
 go_wp2_with fail
 go_ret
 exact⟨X',cX',by rw[HL.out,HL3.out];rfl,by rw[HL.out];exact SL.of_ownT (base:=w.heap.size) (T:=82) (by rw[HL3.out,WL];exact HO8.out) (HSG.out _ HL.out.symm),X8⟩):P:=h
theorem U6 {P:Prop} (h:P:=by
 have HU2:=lh (show ZM m cl fits (k+1)=U++[((k:Int),x)] by rw[hsu.out,if_pos ⟨hx,hf⟩]);have HU3:=lh (show(U++[((k:Int),x)]).length=U.length+1 by simp);have hw1:IntKind.i64.wrap x=x:=wj;clear hsu hf HC
 go_upto_region 6 with(go_at_fn nf;refine HC2.out.mono ?_;rintro e w5 ⟨rfl,x5⟩)
 have X7:=x1.trans x5;have HB7:=lh (QQ.ext HB.out x5)
 go_wp2_with ((at_builtin;refine Qv _ rfl _ _ _ rfl w.heap.size 82 iA (.agg #[.int .i64 0,.int .i64 0]) 2 16 Tryz.underlying65 jA0 jA1 jA2 jA3 rfl om B U.length d (Qz U) rfl (QQ.ext HB7.out (Ext.alloc _ _)) _ 1 1 [.int .i64 k,.int .i64 x] rfl rfl (QC (Blk.new _ _ _)) (by intro u hu;simp only[List.mem_cons,List.not_mem_nil,or_false] at hu;rcases hu with rfl|rfl<;>rfl) um om (X7.trans (Ext.alloc _ _)).size ?_;intro B8 d8 w8 ho8 hg8 hat8))
 have x8:Ext w w8:=Ext.app (X7.trans (Ext.alloc _ _)) (QQ.ext HB7.out (Ext.alloc _ _)) hg8;have HB8:=lh (show QQ w8 w.heap.size 82 2 B8 (U++[((k:Int),x)]).length d8 (Qz (U++[((k:Int),x)])) by
  rw[HU3.out,WL];exact ho8)
 go_roundw
 case rel=>exact⟨k+1,B8,d8,by go_num,om,by rw[HU2.out,HU3.out],by rw[HU2.out];exact HB8,x8⟩
 case measure=>simp[intOf];omega):P:=h
theorem U7 {P:Prop} (h:P:=by
 clear HSS hf hf2
 go_upto_region 8 with fail
 refine Xr.start [] kr ?_;refine Xtk 0 ?_
 iterate 5(refine Xtn ?_)
 iterate 10(first|refine Xtn ?_|refine Xsn ?_)
 iterate 2(refine Xtn ?_)
 iterate 5(first|refine Xtn ?_|refine Xsn ?_)
 refine Xcl 23 fun w3 hE3 hK3 K hKK=>?_;go_simp;refine(HC w3 hE3).out.mono ?_;rintro e w4 ⟨rfl,x4⟩;refine hKK _ _ x4 ?_;clear hKK;refine ptm ?_;refine Xtk 24 ?_;refine Xdn fun w9 hE9 hK9=>?_;have x9:=(hE3.trans x4).trans hE9;clear jf jd je c2 cd c4d HC
 go_wp2_with fail
 go_ret
 exact⟨B,d,by rw[HL.out];rfl,by rw[HL.out];exact SL.of_ownT (QQ.ext HB.out x9) (HSG.out _ HL.out.symm),x1.trans x9⟩):P:=h
theorem U8 {P:Prop} (h:P:=by
 go_wp2_with fail
 go_ret
 exact⟨B,d,by rw[HL.out];rfl,by rw[HL.out];exact SL.of_ownT (QQ.ext HB.out hE9) (HSG.out _ HL.out.symm),x1.trans hE9⟩):P:=h
theorem U9 {P:Prop} (h:P:=by
 have hdv2:dv=false:=by simpa using hdv
 subst hdv2;have HL:=lh (show L=U by rw[HSS.out,if_neg (fun h=>by simp at h)];simp);clear HSS
 go_upto_region 8 with fail
 refine Xr.start [] kr ?_;refine Xtk 0 ?_
 iterate 5(refine Xtn ?_)
 iterate 10(first|refine Xtn ?_|refine Xsn ?_)
 iterate 2(refine Xtn ?_)
 iterate 5(first|refine Xtn ?_|refine Xsn ?_)
 try refine Xsk 23 ?_
 refine Xtk 24 ?_;refine Xdn fun w9 hE9 hK9=>?_;clear jf jd je c2 cd c4d;exact U8):P:=h
theorem aQ {P:Prop} (h:P:=by
 subst hd;have HL:=lh (show L=U by rw[HSS.out];simp);clear HSS
 go_upto_region 8 with fail
 refine Xr.start [] kr ?_;refine Xtk 0 ?_
 iterate 5(refine Xtn ?_)
 iterate 10(first|refine Xtn ?_|refine Xsn ?_)
 iterate 2(refine Xtn ?_)
 iterate 5(first|refine Xtn ?_|refine Xsn ?_)
 try refine Xsk 23 ?_
 refine Xtk 24 ?_;refine Xdn fun w9 hE9 hK9=>?_;clear jf c2;exact U8):P:=h
theorem aW {P:Prop} (h:P:=by
 have HU2:=lh (show ZM m cl fits (k+1)=U by rw[hsu.out,if_neg (fun h=>hf h.2)];simp);clear hsu hf hf2 HC
 go_wp2_with (go_at_fn nf;refine HC2.out.mono ?_;rintro e w5 ⟨rfl,x5⟩)
 go_roundw
 case rel=>exact⟨k+1,B,d,by go_num,om,by rw[HU2.out],by rw[HU2.out];exact lh (QQ.ext HB.out x5),x1.trans x5⟩
 case measure=>simp[intOf];omega):P:=h
theorem aZ {P:Prop} (h:P:=by
 subst hx;have HU2:=lh (show ZM m cl fits (k+1)=U by rw[hsu.out];simp);clear hsu
 go_wp2_with fail
 go_roundw
 case rel=>exact⟨k+1,B,d,by go_num,om,by rw[HU2.out],by rw[HU2.out];exact HB,x1⟩
 case measure=>simp[intOf];omega):P:=h
theorem cC (nf:Nat)(fits:Int->Bool)(w:World)(g:Nat)(m:Ma)(nc:Nat)(strt:List Sp)(hM:JA w g m nc strt)(ga:Nat)(cl:List Nat)(A1 A2 A3 A4:Option Addr)(c1 c2 c3 c4:Nat)(ha:SmC w m g ga cl A1 A2 A3 A4 c1 c2 c3 c4)(hcl:cl.length<=1000000)(hc:∀c∈cl,c<nc)
 (eg:∀args w,(callFunc nf args).run Tryz.prog w=.ok (.enter nf args) w) (H:∀w',Ext w w'->∀st:Int,-1<=st->st<m.next.length->Calls Tryz.prog nf #[.int .i32 st] w' (QD (.bool (fits st)) w')) :
 Calls Tryz.prog 83 #[.pointer (some ⟨g,0,none⟩),.pointer (some ⟨ga,0,none⟩),.func (.func nf) #[] #[]] w (ON (ZE m cl fits) w):=by
 obtain⟨iA,jA0,jA1,jA2,jA3⟩:=info_parts AK;have HH:=lh H;have HA:=lh ha;have HM:=lh hM;have HSR:=fun(k:Nat)=>jK hM.ok hc k;have hr4:=ha.st.len;have hr5:=ha.en.len;rw[Wz] at hr4 hr5;obtain⟨hf0,hf1⟩:=hM.ok.first;have HER:=fun(k:Nat) (hk:k<=cl.length)=>jV (m:=m) (cl:=cl) hk;have HSG:=lh (show ∀l,l=ZE m cl fits->∀s∈l,S64 s from fun l hl s hs=>xv m cl fits hcl s (hl▸hs));have HDL:=lh hM.ok.dl;have HSU:=fun i=>lh (show ZM m cl fits (i+1)=ZM m cl fits i++(if(enF m cl i≠-1/\fits (stF m cl i)=true) then[((i:Int),enF m cl i)] else[]) from rfl);have HSL:=fun i=>yw m cl fits i;have HSS:Hid (ZE m cl fits=ZM m cl fits cl.length++(if(m.first≠-1/\m.dn m.first=true/\fits m.first=true) then[((cl.length:Int),(cl.length:Int))] else[])):=lh rfl;generalize ZE m cl fits=L at *;clear H ha hM hc;have q5:w.cell? ⟨ga,5,none⟩=some (.slice A4 cl.length c4):=HA.out.blk.cell 5;go_enter Tryz.func83,Tryz.ntmps83
 go_upto_region 3 with fail
 clear q5;obtain⟨n,hn⟩:∃n,Hid (cl.length=n):=⟨_,lh rfl⟩;rw[hn.out] at hcl hr4 hr5 HER HSS ⊢
 go_loopw [7,15] (fun v7 v15 wr=>∃(k:Nat) (B:Option Addr) (d:Nat),v15=.int .i64 k/\k<=n/\v7=.slice B (ZM m cl fits k).length d/\
  Hid (QQ wr w.heap.size 82 2 B (ZM m cl fits k).length d (Qz (ZM m cl fits k)))/\Ext w wr) (fun _ v _=>n-(intOf v).toNat)
 case atStart=>exact⟨0,none,0,rfl,om,rfl,lh (QQ.nil _ _ _ _),Ext.rfl' _⟩
 case round=>
  obtain⟨k,B,d,rfl,hk,rfl,HB,x1⟩:=hrel;have HAr:=lh (HA.out.ext x1);by_cases hlt:k<n
  ·have hkI:(k:Int)<n:=om;have hkl:k<cl.length:=by rw[hn.out];exact hlt
   obtain⟨eb,eo,hA4,e4⟩:=HAr.out.en.getF hkl;obtain⟨sb,so,hA3,e3⟩:=HAr.out.st.getF hkl;have q4:wr.cell? ⟨ga,4,none⟩=some (.slice A3 n c3):=by
    have:=HAr.out.blk.cell 4
    rw[<-hn.out];exact this
   rw[hA3] at q4;have hA4':=hA4;subst hA4';have hsu:=HSU k;have hsl:=HSL k;have hsr:=HSR k;have her:=HER k om;generalize enF m cl k=x at *;generalize stF m cl k=st at *;obtain⟨U,hU⟩:∃U,U=ZM m cl fits k:=⟨_,rfl⟩
   rw[<-hU] at HB hsu hsl ⊢;clear hU hA3 hkl;by_cases hx:x = -1
   ·exact aZ
   ·have hxb:(x != -1)=true:=by simpa using hx
    have HC:=lh (HH.out wr x1 st hsr.1 hsr.2);by_cases hf:fits st=true
    ·have HC2:=lh (show Calls Tryz.prog nf #[.int .i32 st] wr (QD (.bool true) wr) by have h9:=HC.out;rw[hf] at h9;exact h9);exact U6
    ·have hf2:fits st=false:=by simpa using hf
     have HC2:=lh (show Calls Tryz.prog nf #[.int .i32 st] wr (QD (.bool false) wr) by have h9:=HC.out;rw[hf2] at h9;exact h9);exact aW
  ·have hkI:¬(k:Int)<n:=om;obtain rfl:n=k:=om;obtain⟨U,hU⟩:∃U,U=ZM m cl fits n:=⟨_,rfl⟩;have HUL:=HSL n
   rw[<-hU] at HB HSS HUL ⊢;clear hU HSU HSL HER HSR;obtain⟨fi,hfi⟩:∃fi,Hid (m.first=fi):=⟨_,lh rfl⟩;rw[hfi.out] at hf0 hf1 HSS;have c2:wr.cell? ⟨g,2,none⟩=some (.int .i32 fi):=by
    have:=(HM.out.at_.ext x1).blk.cell 2
    rw[<-hfi.out];exact this
   have jf:=kc0 c2;by_cases hd:fi = -1
   ·exact aQ
   ·obtain⟨fn,rfl⟩:∃fn:Nat,fi=fn:=⟨fi.toNat,om⟩;have hfn:fn<m.done.length:=by rw[HDL.out];omega
    obtain⟨db,dd,hdA,cd⟩:=(HM.out.at_.ext x1).dn.get hfn;have c4d:wr.cell? ⟨g,4,none⟩=some (.slice m.dA m.done.length m.dc):=(HM.out.at_.ext x1).blk.cell 4;rw[hdA] at c4d;have hfI:(fn:Int)<m.done.length:=om;have hcd:=(HM.out.at_.ext x1).dn.len;have hDV:m.dn fn=m.done[fn]:=by
     have e:((fn:Int)).toNat=fn:=om;simp[Ma.dn,Go.Proofs.YtmocoldobnimfaaGreat.dmF,e,List.getD_eq_getElem?_getD,hfn]
    rw[hDV] at HSS;clear hDV;generalize m.done[fn]=dv at *;generalize m.done.length=dn at *;clear hdA;have jd:=kc0 c4d;have je:=kc0 cd;by_cases hdv:dv=true
    ·subst hdv;by_cases hf:fits (fn:Int)=true
     ·have HL:=lh (show L=U++[((n:Int),(n:Int))] by rw[HSS.out,if_pos ⟨hd,rfl,hf⟩]);have HC:=fun(w':World) (x:Ext wr w')=>lh (show Calls Tryz.prog nf #[.int .i32 fn] w' (QD (.bool true) w') by have h9:=HH.out w' (x1.trans x) fn om hf1;rw[hf] at h9;exact h9);exact U5
     ·have hf2:fits (fn:Int)=false:=by simpa using hf
      have HL:=lh (show L=U by rw[HSS.out,if_neg (fun h=>hf h.2.2)];simp);have HC:=fun(w':World) (x:Ext wr w')=>lh (show Calls Tryz.prog nf #[.int .i32 fn] w' (QD (.bool false) w') by have h9:=HH.out w' (x1.trans x) fn om hf1;rw[hf2] at h9;exact h9);exact U7
    ·exact U9
theorem cD (nf:Nat)(z1:Value)(fits:Int->Bool)(w:World)(g:Nat)(m:Ma)(nc:Nat)(strt:List Sp)(hM:JA w g m nc strt)(ga:Nat)(cl:List Nat)(A1 A2 A3 A4:Option Addr)(c1 c2 c3 c4:Nat)(ha:SmC w m g ga cl A1 A2 A3 A4 c1 c2 c3 c4)(hcl:cl.length<=1000000)(hc:∀c∈cl,c<nc)
 (eg:∀args w,(callFunc nf args).run Tryz.prog w=.ok (.enter nf args) w) (H:∀w',Ext w w'->∀st:Int,-1<=st->st<m.next.length->Calls Tryz.prog nf #[.int .i32 st,z1] w' (QD (.bool (fits st)) w')) :
 Calls Tryz.prog 83 #[.pointer (some ⟨g,0,none⟩),.pointer (some ⟨ga,0,none⟩),.func (.func nf) #[] #[z1]] w (ON (ZE m cl fits) w):=by
 obtain⟨iA,jA0,jA1,jA2,jA3⟩:=info_parts AK;have HH:=lh H;have HA:=lh ha;have HM:=lh hM;have HSR:=fun(k:Nat)=>jK hM.ok hc k;have hr4:=ha.st.len;have hr5:=ha.en.len;rw[Wz] at hr4 hr5;obtain⟨hf0,hf1⟩:=hM.ok.first;have HER:=fun(k:Nat) (hk:k<=cl.length)=>jV (m:=m) (cl:=cl) hk;have HSG:=lh (show ∀l,l=ZE m cl fits->∀s∈l,S64 s from fun l hl s hs=>xv m cl fits hcl s (hl▸hs));have HDL:=lh hM.ok.dl;have HSU:=fun i=>lh (show ZM m cl fits (i+1)=ZM m cl fits i++(if(enF m cl i≠-1/\fits (stF m cl i)=true) then[((i:Int),enF m cl i)] else[]) from rfl);have HSL:=fun i=>yw m cl fits i;have HSS:Hid (ZE m cl fits=ZM m cl fits cl.length++(if(m.first≠-1/\m.dn m.first=true/\fits m.first=true) then[((cl.length:Int),(cl.length:Int))] else[])):=lh rfl;generalize ZE m cl fits=L at *;clear H ha hM hc;have q5:w.cell? ⟨ga,5,none⟩=some (.slice A4 cl.length c4):=HA.out.blk.cell 5;go_enter Tryz.func83,Tryz.ntmps83
 go_upto_region 3 with fail
 clear q5;obtain⟨n,hn⟩:∃n,Hid (cl.length=n):=⟨_,lh rfl⟩;rw[hn.out] at hcl hr4 hr5 HER HSS ⊢
 go_loopw [7,15] (fun v7 v15 wr=>∃(k:Nat) (B:Option Addr) (d:Nat),v15=.int .i64 k/\k<=n/\v7=.slice B (ZM m cl fits k).length d/\
  Hid (QQ wr w.heap.size 82 2 B (ZM m cl fits k).length d (Qz (ZM m cl fits k)))/\Ext w wr) (fun _ v _=>n-(intOf v).toNat)
 case atStart=>exact⟨0,none,0,rfl,om,rfl,lh (QQ.nil _ _ _ _),Ext.rfl' _⟩
 case round=>
  obtain⟨k,B,d,rfl,hk,rfl,HB,x1⟩:=hrel;have HAr:=lh (HA.out.ext x1);by_cases hlt:k<n
  ·have hkI:(k:Int)<n:=om;have hkl:k<cl.length:=by rw[hn.out];exact hlt
   obtain⟨eb,eo,hA4,e4⟩:=HAr.out.en.getF hkl;obtain⟨sb,so,hA3,e3⟩:=HAr.out.st.getF hkl;have q4:wr.cell? ⟨ga,4,none⟩=some (.slice A3 n c3):=by
    have:=HAr.out.blk.cell 4
    rw[<-hn.out];exact this
   rw[hA3] at q4;have hA4':=hA4;subst hA4';have hsu:=HSU k;have hsl:=HSL k;have hsr:=HSR k;have her:=HER k om;generalize enF m cl k=x at *;generalize stF m cl k=st at *;obtain⟨U,hU⟩:∃U,U=ZM m cl fits k:=⟨_,rfl⟩
   rw[<-hU] at HB hsu hsl ⊢;clear hU hA3 hkl;by_cases hx:x = -1
   ·exact aZ
   ·have hxb:(x != -1)=true:=by simpa using hx
    have HC:=lh (HH.out wr x1 st hsr.1 hsr.2);by_cases hf:fits st=true
    ·have HC2:=lh (show Calls Tryz.prog nf #[.int .i32 st,z1] wr (QD (.bool true) wr) by have h9:=HC.out;rw[hf] at h9;exact h9);exact U6
    ·have hf2:fits st=false:=by simpa using hf
     have HC2:=lh (show Calls Tryz.prog nf #[.int .i32 st,z1] wr (QD (.bool false) wr) by have h9:=HC.out;rw[hf2] at h9;exact h9);exact aW
  ·have hkI:¬(k:Int)<n:=om;obtain rfl:n=k:=om;obtain⟨U,hU⟩:∃U,U=ZM m cl fits n:=⟨_,rfl⟩;have HUL:=HSL n
   rw[<-hU] at HB HSS HUL ⊢;clear hU HSU HSL HER HSR;obtain⟨fi,hfi⟩:∃fi,Hid (m.first=fi):=⟨_,lh rfl⟩;rw[hfi.out] at hf0 hf1 HSS;have c2:wr.cell? ⟨g,2,none⟩=some (.int .i32 fi):=by
    have:=(HM.out.at_.ext x1).blk.cell 2
    rw[<-hfi.out];exact this
   have jf:=kc0 c2;by_cases hd:fi = -1
   ·exact aQ
   ·obtain⟨fn,rfl⟩:∃fn:Nat,fi=fn:=⟨fi.toNat,om⟩;have hfn:fn<m.done.length:=by rw[HDL.out];omega
    obtain⟨db,dd,hdA,cd⟩:=(HM.out.at_.ext x1).dn.get hfn;have c4d:wr.cell? ⟨g,4,none⟩=some (.slice m.dA m.done.length m.dc):=(HM.out.at_.ext x1).blk.cell 4;rw[hdA] at c4d;have hfI:(fn:Int)<m.done.length:=om;have hcd:=(HM.out.at_.ext x1).dn.len;have hDV:m.dn fn=m.done[fn]:=by
     have e:((fn:Int)).toNat=fn:=om;simp[Ma.dn,Go.Proofs.YtmocoldobnimfaaGreat.dmF,e,List.getD_eq_getElem?_getD,hfn]
    rw[hDV] at HSS;clear hDV;generalize m.done[fn]=dv at *;generalize m.done.length=dn at *;clear hdA;have jd:=kc0 c4d;have je:=kc0 cd;by_cases hdv:dv=true
    ·subst hdv;by_cases hf:fits (fn:Int)=true
     ·have HL:=lh (show L=U++[((n:Int),(n:Int))] by rw[HSS.out,if_pos ⟨hd,rfl,hf⟩]);have HC:=fun(w':World) (x:Ext wr w')=>lh (show Calls Tryz.prog nf #[.int .i32 fn,z1] w' (QD (.bool true) w') by have h9:=HH.out w' (x1.trans x) fn om hf1;rw[hf] at h9;exact h9);exact U5
     ·have hf2:fits (fn:Int)=false:=by simpa using hf
      have HL:=lh (show L=U by rw[HSS.out,if_neg (fun h=>hf h.2.2)];simp);have HC:=fun(w':World) (x:Ext wr w')=>lh (show Calls Tryz.prog nf #[.int .i32 fn,z1] w' (QD (.bool false) w') by have h9:=HH.out w' (x1.trans x) fn om hf1;rw[hf2] at h9;exact h9);exact U7
    ·exact U9
def wE (l:List Sp)(w:World)(e:Ending)(w':World):Prop:=∃(A:Option Addr) (c:Nat),e=.returned (.tuple #[.slice A l.length c,.int .i64 0])/\SL w' A c l/\Ext w w'
def AE (m:Ma)(st:Int):Bool:=decide (st = -1) || !m.opn.getD st.toNat false
theorem NZ (w:World)(g:Nat)(m:Ma)(nc:Nat)(strt:List Sp)(hM:JA w g m nc strt)(ga:Nat)(sa:Sm)(cl:List Nat)(ha:Kw w ga sa)(ka:JQ m g cl sa)(hcl:cl.length<=1000000)(hc:∀c∈cl,c<nc) :
 Calls Tryz.prog 28 #[.pointer (some ⟨g,0,none⟩),.pointer (some ⟨ga,0,none⟩)] w (wE (ZE m cl (fun _=>true)) w):=by
 have H1:=lh (show Calls Tryz.prog 81 #[.pointer (some ⟨g,0,none⟩),.pointer (some ⟨ga,0,none⟩)] w (QD (.bool true) w) by
  have h:=jN w g ga sa ha _ _ _ _ hM.at_.blk (by rw[ka.mch];exact hM.at_.blk);rw[ka.mch,decide_eq_true rfl] at h;exact h)
 have eg:∀args w,(callFunc 84 args).run Tryz.prog w=.ok (.enter 84 args) w:=enters_of Tryz.func84 kr rfl;have H2:=fun(w':World) (x:Ext w w')=>lh (cC 84 (fun _=>true) w' g m nc strt (hM.ext x) ga cl _ _ _ _ _ _ _ _ (SmC.of (ha.ext x) ka) hcl hc eg (fun w2 _ st _ _=>MO w2 st));clear hM ha ka hc eg;generalize ZE m cl (fun _=>true)=L at *;go_enter Tryz.func28,Tryz.ntmps28
 go_upto_region 2 with fail
 refine H1.out.mono ?_;rintro e w1 ⟨rfl,x1⟩
 go_upto_region 4 with fail
 refine(H2 w1 x1).out.mono ?_;rintro e w2 ⟨A,c,rfl,hS,x2⟩
 go_wp2_with fail
 go_ret2
 exact⟨A,c,rfl,hS,x1.trans x2⟩
theorem Py (w:World)(g:Nat)(m:Ma)(nc:Nat)(strt:List Sp)(hM:JA w g m nc strt)(ga:Nat)(sa:Sm)(cl:List Nat)(ha:Kw w ga sa)(ka:JQ m g cl sa)(hcl:cl.length<=1000000)(hc:∀c∈cl,c<nc) :
 Calls Tryz.prog 29 #[.pointer (some ⟨g,0,none⟩),.pointer (some ⟨ga,0,none⟩)] w (wE (ZE m cl (AE m)) w):=by
 have BB:=Blk.new w 43 #[.pointer (some ⟨g,0,none⟩)];have EX:=Ext.alloc w (.cells #[.pointer (some ⟨g,0,none⟩)] 43);have H1:=lh (show Calls Tryz.prog 81 #[.pointer (some ⟨g,0,none⟩),.pointer (some ⟨ga,0,none⟩)] (w.alloc (.cells #[.pointer (some ⟨g,0,none⟩)] 43)) (QD (.bool true) (w.alloc (.cells #[.pointer (some ⟨g,0,none⟩)] 43))) by
  have h:=jN _ g ga sa (ha.ext EX) _ _ _ _ (hM.ext EX).at_.blk (by rw[ka.mch];exact(hM.ext EX).at_.blk);rw[ka.mch,decide_eq_true rfl] at h;exact h)
 have eg:∀args w,(callFunc 85 args).run Tryz.prog w=.ok (.enter 85 args) w:=enters_of Tryz.func85 kr rfl;have H2:=fun(w':World) (x:Ext (w.alloc (.cells #[.pointer (some ⟨g,0,none⟩)] 43)) w')=>lh (cD 85 (.pointer (some ⟨w.heap.size,0,none⟩)) (AE m) w' g m nc strt (hM.ext (EX.trans x)) ga cl _ _ _ _ _ _ _ _ (SmC.of (ha.ext (EX.trans x)) ka) hcl hc eg (fun w2 y st h0 h1=>
  PW w2 w.heap.size g m ((hM.ext (EX.trans x)).ext y).at_ ((BB.ext (x.trans y)).cell 0) st h0 (by rw[hM.ol];exact h1)))
 clear hM ha ka hc eg;generalize ZE m cl (AE m)=L at *;have b0:=BB.cell 0;clear BB;obtain⟨gb,hgb⟩:∃gb,gb=w.heap.size:=⟨_,rfl⟩
 rw[<-hgb] at b0 H2;have HG:=lh hgb;clear hgb;go_enter Tryz.func29,Tryz.ntmps29
 go_upto_region 1 with fail
 rw[<-HG.out];generalize w.alloc (.cells #[.pointer (some ⟨g,0,none⟩)] 43)=w0 at *
 go_upto_region 2 with fail
 refine H1.out.mono ?_;rintro e w1 ⟨rfl,x1⟩;have b1:=x1.cell b0
 go_upto_region 4 with fail
 refine(H2 w1 x1).out.mono ?_;rintro e w2 ⟨A,c,rfl,hS,x2⟩
 go_wp2_with fail
 go_ret2
 exact⟨A,c,rfl,hS,(EX.trans x1).trans x2⟩
end
