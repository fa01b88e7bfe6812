/- Texts of this proof: Y10 Y11 Y12 Y13. -/
import Derived.Test.YtmpcoifnpflapaaGreatER30
import Derived.Laws.CopyRow
import Derived.Laws.IdiomCopy
set_option linter.all false
set_option maxRecDepth 100000
set_option maxHeartbeats 16000000
namespace Go.Proofs.YtmpcoifnpflapaaGreat
section
open Go.RowKit
attribute [local go_sem ↓] Go.wp_at_zero Go.wp_at_succ
theorem splice_eq (f h:Nat->Int)(la lb n:Nat)(hn:n=la+lb):(upTo f la n).take la++upF h lb++(upTo f la n).drop (la+lb)=upF (fun j=>if j<la then f j else h (j-la)) n:=by
 subst hn;apply List.ext_getElem
 ·simp[upTo,upF]
 ·intro j h1 h2;have hj:j<la+lb:=by simpa[upF] using h2
  have hd:(upTo f la (la+lb)).drop (la+lb)=[]:=List.drop_eq_nil_of_le (by rw[upTo_len];omega);have htl:((upTo f la (la+lb)).take la).length=la:=by rw[List.length_take,upTo_len];omega
  simp only[hd,List.append_nil];by_cases hjl:j<la
  ·rw[List.getElem_append_left om];simp[upTo,upF,hjl]
  ·rw[List.getElem_append_right om];simp only[htl];simp[upF,hjl]
def mixE (f h:Nat->Int)(la k n:Nat):List Int:=upF (fun j=>if j<k then f j else h (j-la)) n
theorem splice_mix (f h:Nat->Int)(la lb n:Nat)(hn:n=la+lb):(upTo f la n).take la++upF h lb++(upTo f la n).drop (la+lb)=mixE f h la la n:=splice_eq f h la lb n hn
theorem mixE_len (f h:Nat->Int)(la k n:Nat):(mixE f h la k n).length=n:=by simp[mixE,upF]
theorem mixE_set (f h:Nat->Int)(la k n:Nat):(mixE f h la k n).set k (f k)=mixE f h la (k+1) n:=by
 apply List.ext_getElem
 ·simp[mixE,upF]
 ·intro j h1 h2;rw[List.getElem_set];simp only[mixE,upF,List.getElem_map,List.getElem_range];by_cases e:k=j
  ·subst e;simp
  ·rw[if_neg e];by_cases h3:j<k
   ·rw[if_pos h3,if_pos om]
   ·rw[if_neg h3,if_neg om]
theorem mixE_keep (f h:Nat->Int)(la k n:Nat)(e:f k=h (k-la)):mixE f h la k n=mixE f h la (k+1) n:=by
 refine upF_congr (fun j _=>?_);by_cases h3:j<k
 ·rw[if_pos h3,if_pos om]
 ·rw[if_neg h3];by_cases h4:j=k
  ·subst h4;rw[if_pos om,e]
  ·rw[if_neg om]
theorem mixE_all (f h:Nat->Int)(la n:Nat):mixE f h la n n=upF f n:=upF_congr (fun j hj=>by rw[if_pos hj])
theorem mixE_get {f h:Nat->Int}{la k n:Nat}(hk:k<n):(mixE f h la k n)[k]'(by rw[mixE_len];exact hk)=h (k-la):=by simp[mixE,upF]
section
variable {P:Program}
theorem wp_copyK {o:Oper}{a:Act}{K:Act->World->Prop}{Q:Exit->Act->World->Prop}(w:World)(d s:Operand)(dT elem:TypeId)
 (ho:o.op=.call { callee:=.builtin .copy,args:=#[d,s],argTypes:=#[dT,dT] }) (hu:P.underlying dT=some (.slice elem)) (hsz:(P.info? elem).map (·.size)=some 1)
 (D A:Option Addr) (dl dc c g off T:Nat) (xs ys:List Int) (hd:a.eval d=.slice D dl dc) (hs:a.eval s=.slice A ys.length c) (hb:Blk w g T (kInts xs)) (hfit:off+ys.length<=xs.length)
 (hD:ys≠[]->D=some ⟨g,off,none⟩) (hdl:dl=ys.length) (hA:KL w A c ys)
 (h:∀w',Blk w' g T (kInts (xs.take off++ys++xs.drop (off+ys.length)))->KpP (·=g) w w'->K (a.put o.dst (goInt ys.length)) w'):o.wp P a w K Q:=by
 subst hdl;by_cases h0:ys=[]
 ·subst h0;have hrun:=run_copy_none (P:=P) w dT dT o.type elem D A 0 dc 0 c hu hsz rfl;have hk:=h w (by simpa using hb) (KpP.refl _ _);unfold Oper.wp execOp;simp only[List.length_nil] at hd hs;simp only[ho,resolve,invoke,builtin,Sem.run_bind,Sem.run_pure,Result.andThen_ok,List.map_toArray,List.map_cons,List.map_nil,hs,hd,hrun];exact hk
 ·obtain⟨b,of,rfl,hc⟩:=hA.at_ h0;have e:=hD h0;subst e;have hrun:=run_copy_row (P:=P) w dT dT o.type elem g off ys.length dc ⟨b,of,none⟩ ys.length c (kInts xs) T (ys.map (Value.int .i32)) hu hsz hb si (fun j v hv=>by
   obtain⟨hj,rfl⟩:=List.getElem?_eq_some_iff.1 hv;rw[Addr.add_lit];simp only[List.getElem_map];exact hc j (by simpa using hj)) (by simp[kInts];omega) (fun v hv=>by
   obtain⟨x,_,rfl⟩:=List.mem_map.1 hv
   rfl)
  have e2:((kInts xs).toList.take off++ys.map (Value.int .i32)++(kInts xs).toList.drop (off+(ys.map (Value.int .i32)).length)).toArray=kInts (xs.take off++ys++xs.drop (off+ys.length)):=by
   simp[kInts,List.map_take,List.map_drop]
  rw[e2] at hrun;have hk:=h (w.setRow g (kInts (xs.take off++ys++xs.drop (off+ys.length)))) (setRow_heap w g _ _ T _ hb) ⟨rfl,rfl,rfl,by simp[World.setRow],fun k hk hn=>setRow_other w g k _ hn⟩;unfold Oper.wp execOp;simp only[ho,resolve,invoke,builtin,Sem.run_bind,Sem.run_pure,Result.andThen_ok,List.map_toArray,List.map_cons,List.map_nil,hs,hd,hrun];rw[List.length_map];exact hk
end
theorem WI_kpP {L:List Nat}{I:List (Nat×Nat)}{w w':World}{g:Nat}(k:KpP (·=g) w w')(hg:g∈L):WI L I w w':=
 ⟨k.os,k.tape,k.output,k.size,fun i hi hn=>k.block i hi (fun e=>hn (Or.inl (e▸hg)))⟩
theorem Kp.thenP {L:List Nat}{a w w':World}{g:Nat}(h:Kp L a w)(k:KpP (·=g) w w')(hg:g∈L):Kp L a w':=
 h.trans ⟨k.os,k.tape,k.output,k.size,fun i hi hn=>k.block i hi (fun e=>hn (e▸hg))⟩
theorem Ext.thenQ {a w w':World}{g:Nat}(h:Ext a w)(k:KpP (·=g) w w')(hg:a.heap.size<=g):Ext a w':=
 ⟨k.os.trans h.os,k.tape.trans h.tape,k.output.trans h.output,Nat.le_trans h.size k.size,fun i hi=>(k.block i (Nat.lt_of_lt_of_le hi h.size) (fun e=>by have e2:i=g:=e;omega)).trans (h.block i hi)⟩
theorem KpP.blkN {w w':World}{g b T:Nat}{cs:Array Value}(k:KpP (·=g) w w')(h:Blk w b T cs)(hb:b≠g):Blk w' b T cs:=(k.block b h.lt hb).trans h
theorem WhI.copy3 {wr w' w0:World}{g N n gs b1 b2 b3 b4:Nat}{t l s e s':List Int}(h:WhI wr w0 g N n gs b1 b2 b3 b4 t l s e)(hb:Blk w' b3 21 (kInts s'))(k:KpP (·=b3) wr w'):WhI w' w0 g N n gs b1 b2 b3 b4 t l s' e:=by
 obtain⟨n1,n2,n3,n4,n5,n6,n7,n8,n9,n10⟩:=h.ne;exact⟨k.blkN h.bs n3,k.blkN h.k1 n6,k.blkN h.k2 n8,hb,k.blkN h.k4 n10.symm,h.nd,h.lo⟩
theorem WhI.copy4 {wr w' w0:World}{g N n gs b1 b2 b3 b4:Nat}{t l s e e':List Int}(h:WhI wr w0 g N n gs b1 b2 b3 b4 t l s e)(hb:Blk w' b4 21 (kInts e'))(k:KpP (·=b4) wr w'):WhI w' w0 g N n gs b1 b2 b3 b4 t l s e':=by
 obtain⟨n1,n2,n3,n4,n5,n6,n7,n8,n9,n10⟩:=h.ne;exact⟨k.blkN h.bs n4,k.blkN h.k1 n7,k.blkN h.k2 n9,k.blkN h.k3 n10,hb,h.nd,h.lo⟩
structure SmC (w:World)(m:Ma)(g ga:Nat)(cl:List Nat)(A1 A2 A3 A4:Option Addr)(c1 c2 c3 c4:Nat):Prop where
 blk:Blk w ga 199 #[.pointer (some ⟨g,0,none⟩),.int .i64 cl.length,.slice A1 m.next.length c1,.slice A2 m.next.length c2,.slice A3 cl.length c3,.slice A4 cl.length c4]
 tg:KL w A1 c1 (upF (tgF m cl) m.next.length)
 la:KL w A2 c2 (upF (laF m cl) m.next.length)
 st:KL w A3 c3 (upF (stF m cl) cl.length)
 en:KL w A4 c4 (upF (enF m cl) cl.length)
theorem SmC.ext {w w':World}{m:Ma}{g ga:Nat}{cl:List Nat}{A1 A2 A3 A4:Option Addr}{c1 c2 c3 c4:Nat}(h:SmC w m g ga cl A1 A2 A3 A4 c1 c2 c3 c4)(x:Ext w w'):SmC w' m g ga cl A1 A2 A3 A4 c1 c2 c3 c4:=
 ⟨h.blk.ext x,h.tg.ext x,h.la.ext x,h.st.ext x,h.en.ext x⟩
theorem SmC.of {w:World}{m:Ma}{g ga:Nat}{cl:List Nat}{s:Sm}(h:SmAt w ga s)(k:SumOf m g cl s):SmC w m g ga cl s.tA s.lA s.sA s.eA s.tc s.lc s.sc s.ec:=by
 obtain⟨k1,k2,k3,k4,k5,k6⟩:=k;obtain⟨h1,h2,h3,h4,h5⟩:=h;rw[k3] at h2;rw[k4] at h3;rw[k5] at h4;rw[k6] at h5;refine⟨?_,h2,h3,h4,h5⟩;unfold smCells at h1;rw[k1,k2,k3,k4,k5,k6,upF_len,upF_len,upF_len,upF_len] at h1;exact h1
theorem KL.getF {w:World}{A:Option Addr}{c n i:Nat}{f:Nat->Int}(h:KL w A c (upF f n))(hi:i<n):∃b o,A=some ⟨b,o,none⟩/\w.cell? ⟨b,o+i,none⟩=some (.int .i32 (f i)):=by
 obtain⟨b,o,hA,hc⟩:=h.get (k:=i) (by rw[upF_len];exact hi);rw[upF_get] at hc;exact⟨b,o,hA,hc⟩
theorem Y10z1 {P:Prop} (h:P:=by
 have h6:=World.block_lt_of_cell? _ _ h';injection e' with e';injection e' with e7 e8
 simp only at h6;omega):P:=h
theorem Y10z2 {P:Prop} (h:P:=by
 have h5:lb≠0:=fun h0=>hne (List.length_eq_zero_iff.1 (by rw[upF_len,HLB.out];exact h0));have h6:=HN.out;unfold dropI;rw[if_neg om,Option.map_some,Addr.add_lit,Nat.zero_add]):P:=h
theorem Y10z3 {P:Prop} (h:P:=by
 clear c6 f6 c7 f7 W6 W7 W8
 go_wp2_with fail
 go_roundw
 case rel=>exact⟨i+1,by go_num,om,HW8,y8⟩
 case measure=>simp[intOf];omega):P:=h
theorem join_any (w:World)(g:Nat)(m:Ma)(nc:Nat)(hm:MaAt w g m)(ok:MaOk nc m)(ga gb:Nat)(ca cb:List Nat)(A1 A2 A3 A4 B1 B2 B3 B4:Option Addr)(c1 c2 c3 c4 d1 d2 d3 d4:Nat)
 (ha:SmC w m g ga ca A1 A2 A3 A4 c1 c2 c3 c4) (hb:SmC w m g gb cb B1 B2 B3 B4 d1 d2 d3 d4) (hca:∀c∈ca,c<nc) (hcb:∀c∈cb,c<nc) (hlen:ca.length+cb.length<=1000000)
 (HAFT:∀w',Ext w w'->∀st la:Int,-1<=st->st<m.next.length->Calls Tryz.prog 171 #[.pointer (some ⟨ga,0,none⟩),.pointer (some ⟨gb,0,none⟩),.int .i32 st,.int .i32 la] w' (RetV (.tuple #[.int .i32 (aftG ca.length (upF (tgF m cb) m.next.length) (upF (laF m cb) m.next.length) st la).1,.int .i32 (aftG ca.length (upF (tgF m cb) m.next.length) (upF (laF m cb) m.next.length) st la).2]) w')) :
 Calls Tryz.prog 109 #[.pointer (some ⟨g,0,none⟩),.pointer (some ⟨ga,0,none⟩),.pointer (some ⟨gb,0,none⟩)] w (RetSum m g (ca++cb) w):=by
 have hN:=ok.len;obtain⟨n,hn⟩:∃n,n=ca.length+cb.length:=⟨_,rfl⟩;have HN:=lh hn;have HBK:=fun(w':World) (x:Ext w w')=>lh (blank_any w' g m nc (hm.ext x) ok n om);have HM:=lh hm;have HO:=lh ok;have HA:=lh ha;have HB:=lh hb;have HCA:=lh hca;have HCB:=lh hcb;have HAF0:=lh HAFT;have HTG:=fun(i:Nat) (hi:i<m.next.length)=>lh (tgF_join m nc ok ca cb hca hi);have HTR:=fun(i:Nat) (hi:i<m.next.length)=>tgF_rng ok hca hi;have HST:=fun(k:Nat) (hk:k<=ca.length)=>lh (stF_join m nc ok ca cb hca hk);have HSR:=fun(k:Nat)=>stF_rng ok hca k;have HS3:Hid (upF (fun j=>if j<ca.length then stF m (ca++cb) j else stF m cb (j-ca.length)) n=upF (stF m (ca++cb)) n):=lh (upF_congr (fun j hj=>by
  by_cases h:j<ca.length
  ·rw[if_pos h]
  ·rw[if_neg h];have h2:=(stF_right m ca cb (j-ca.length)).1;rw[show ca.length+(j-ca.length)=j by omega] at h2;exact h2.symm))
 have HER:=fun(k:Nat) (hk:ca.length<=k)=>(show enF m (ca++cb) k=(if enF m cb (k-ca.length) = -1 then -1 else(ca.length:Int)+enF m cb (k-ca.length)) by
  have h2:=(stF_right m ca cb (k-ca.length)).2;rw[show ca.length+(k-ca.length)=k by omega] at h2;exact h2)
 have HXR:=fun(j:Nat) (hj:j<=cb.length)=>enF_rng (m:=m) (cl:=cb) hj;have hal:ca.length<=n:=om;have hnl:n<=1000000:=om;have hw0:IntKind.i64.wrap ((ca.length:Int)+cb.length)=(n:Int):=wj;have qa1:w.cell? ⟨ga,1,none⟩=some (.int .i64 ca.length):=ha.blk.cell 1;have qb1:w.cell? ⟨gb,1,none⟩=some (.int .i64 cb.length):=hb.blk.cell 1;have hgal:=ha.blk.lt;have hgbl:=hb.blk.lt;clear hm ok ha hb hca hcb hn HAFT;generalize hla:ca.length=la at *;generalize hlb:cb.length=lb at *;have HLA:=lh hla;have HLB:=lh hlb;clear hla hlb;have ja1:=kc0 qa1;have jb1:=kc0 qb1;go_enter Tryz.func109,Tryz.ntmps109
 go_upto_region 1 with fail
 refine Xr.start [] kr ?_;refine Xtk 0 ?_
 iterate 9(refine Xtn ?_)
 refine Xcl 10 fun w1 hE1 hK1 K hKK=>?_;go_simp;refine(HBK w1 hE1).out.mono ?_;rintro e w2 hbk;obtain⟨gs,b1,b2,b3,b4,rfl,hW,x2⟩:=WhI.of_blank hbk;refine hKK _ _ x2 ?_;clear hKK hbk HBK;refine ptm ?_;refine Xtk 11 ?_;refine Xdn fun w3 hE3 hK3=>?_;have X1:=hE1;have X3:=(hE1.trans x2).trans hE3;obtain⟨n1,n2,n3,n4,-,-,-,-,-,-⟩:=hW.ne;have hlow:=hW.low;have hlow2:=hE1.size;have l1:w.heap.size<=b1:=om;have l2:w.heap.size<=b2:=om;have l3:w.heap.size<=b3:=om;have l4:w.heap.size<=b4:=om;have hW3:WhI w3 w g m.next.length n gs b1 b2 b3 b4 (List.replicate m.next.length 0) (List.replicate m.next.length 0) (List.replicate n 0) (List.replicate n 0):=⟨(hW.ext hE3).bs,(hW.ext hE3).k1,(hW.ext hE3).k2,(hW.ext hE3).k3,(hW.ext hE3).k4,hW.nd,fun b hb=>by have:=hW.lo b hb;omega⟩;have hr2:=hW3.bs.cell 2;have HW0:Hid (WhI w3 w g m.next.length n gs b1 b2 b3 b4 (upTo (tgF m (ca++cb)) 0 m.next.length) (upTo (laF m (ca++cb)) 0 m.next.length) (upTo (stF m (ca++cb)) 0 n) (upTo (enF m (ca++cb)) 0 n)):=lh (by rw[upTo_zero,upTo_zero,upTo_zero,upTo_zero];exact hW3);clear hW hW3 hE1 hK1 x2 hE3 hK3 ja1 jb1 hlow hlow2
 go_upto_region 3 with fail
 clear hr2
 go_loopw [27] (fun v wr=>∃i:Nat,v=.int .i64 i/\i<=m.next.length/\Hid (WhI wr w g m.next.length n gs b1 b2 b3 b4 (upTo (tgF m (ca++cb)) i m.next.length) (upTo (laF m (ca++cb)) i m.next.length) (upTo (stF m (ca++cb)) 0 n) (upTo (enF m (ca++cb)) 0 n))/\Ext w wr) (fun v _=>m.next.length-(intOf v).toNat)
 case atStart=>exact⟨0,rfl,om,HW0,X3⟩
 case round=>
  obtain⟨i,rfl,hi,HW,y1⟩:=hrel;have HAr:=lh (HA.out.ext y1);by_cases hlt2:i<m.next.length
  ·have hiI:(i:Int)<m.next.length:=om;have HAF:=fun(w':World) (x:Ext wr w')=>lh (show Calls Tryz.prog 171 #[.pointer (some ⟨ga,0,none⟩),.pointer (some ⟨gb,0,none⟩),.int .i32 (tgF m ca i),.int .i32 (laF m ca i)] w' (RetV (.tuple #[.int .i32 (tgF m (ca++cb) i),.int .i32 (laF m (ca++cb) i)]) w') by
    have h9:=HAF0.out w' (y1.trans x) (tgF m ca i) (laF m ca i) (HTR i hlt2).1 (HTR i hlt2).2
    rw[(HTG i hlt2).out] at h9;exact h9)
   obtain⟨tb,tt,hA1,e1⟩:=HAr.out.tg.getF hlt2;obtain⟨ub,uu,hA2,e2⟩:=HAr.out.la.getF hlt2;have qa2:wr.cell? ⟨ga,2,none⟩=some (.slice A1 m.next.length c1):=HAr.out.blk.cell 2;have qa3:wr.cell? ⟨ga,3,none⟩=some (.slice A2 m.next.length c2):=HAr.out.blk.cell 3;have hc1:=HAr.out.tg.len;have hc2:=HAr.out.la.len;rw[upF_len] at hc1 hc2;have HAo:=HA.out;have htb:tb<w.heap.size:=by
    obtain⟨b',o',e',h'⟩:=HAo.tg.getF hlt2;rw[hA1] at e';exact Y10z1
   have hub:ub<w.heap.size:=by
    obtain⟨b',o',e',h'⟩:=HAo.la.getF hlt2;rw[hA2] at e';exact Y10z1
   rw[hA1] at qa2;rw[hA2] at qa3;generalize tgF m ca i=v1 at *;generalize laF m ca i=v2 at *;clear HAo hA1 hA2;have j2:=fun(w':World) (h:Kp [b1,b2] wr w')=>h.cell (HW.out.bs.cell 2) (by simp[n1,n2]);have j3:=fun(w':World) (h:Kp [b1,b2] wr w')=>h.cell (HW.out.bs.cell 3) (by simp[n1,n2]);have ja2:=fun(w':World) (h:Kp [b1,b2] wr w')=>h.cell qa2 (by simp;omega);have ja3:=fun(w':World) (h:Kp [b1,b2] wr w')=>h.cell qa3 (by simp;omega);have je1:=fun(w':World) (h:Kp [b1,b2] wr w')=>h.cell e1 (by simp;omega);have je2:=fun(w':World) (h:Kp [b1,b2] wr w')=>h.cell e2 (by simp;omega)
   go_upto_region 5 with fail
   refine Xr.start [b1,b2] kr ?_;refine Xtk 0 ?_
   iterate 25(refine Xtn ?_)
   refine Xcl 26 fun w4 hE4 hK4 K hKK=>?_;go_simp;refine(HAF w4 hE4).out.mono ?_;rintro e w5 ⟨rfl,x5⟩;refine hKK _ _ x5 ?_;clear hKK;refine ptm ?_;refine Xtk 27 ?_
   iterate 3(refine Xtn ?_)
   have E45:=hE4.trans x5;refine Xsp 31 fun w6 hE6 hK6 K hKK=>?_;have W6:=HW.out.ext (E45.trans hE6);have c6:=W6.k1.cellK (i:=i) (by rw[upTo_len];exact hlt2);have f6:=W6.k1.frz i;go_simp;refine hKK _ _ (WI_setL (WI_refl _ _ _) List.mem_cons_self _ _) (hK6.setL List.mem_cons_self _ _) ?_;clear hKK;refine ptm ?_;refine Xtk 32 ?_;refine Xsp 33 fun w7 hE7 hK7 K hKK=>?_;have W7:=(W6.set1 i (tgF m (ca++cb) i)).ext hE7;have c7:=W7.k2.cellK (i:=i) (by rw[upTo_len];exact hlt2);have f7:=W7.k2.frz i;go_simp;refine hKK _ _ (WI_setL (WI_refl _ _ _) (List.mem_cons_of_mem _ List.mem_cons_self) _ _) (hK7.setL (List.mem_cons_of_mem _ List.mem_cons_self) _ _) ?_;clear hKK;refine ptm ?_;refine Xdn fun w8 hE8 hK8=>?_;have W8:=(W7.set2 i (laF m (ca++cb) i)).ext hE8;rw[upTo_set,upTo_set] at W8;have HW8:=lh W8;have y8:Ext w w8:=((((y1.trans (E45.trans hE6)).setNew (p:=⟨b1,i,none⟩) l1 _).trans hE7).setNew (p:=⟨b2,i,none⟩) l2 _).trans hE8;exact Y10z3
  ·have hiI:¬(i:Int)<m.next.length:=om;obtain rfl:i=m.next.length:=om;have qa4:wr.cell? ⟨ga,4,none⟩=some (.slice A3 la c3):=by
    have:=HAr.out.blk.cell 4
    rw[<-HLA.out];exact this
   go_upto_region 8 with fail
   clear qa4
   go_loopw [68] (fun v wr=>∃i:Nat,v=.int .i64 i/\i<=la/\Hid (WhI wr w g m.next.length n gs b1 b2 b3 b4 (upTo (tgF m (ca++cb)) m.next.length m.next.length) (upTo (laF m (ca++cb)) m.next.length m.next.length) (upTo (stF m (ca++cb)) i n) (upTo (enF m (ca++cb)) i n))/\Ext w wr) (fun v _=>la-(intOf v).toNat)
   case atStart=>exact⟨0,rfl,om,HW,y1⟩
   case round=>
    obtain⟨i,rfl,hi,HW,y1⟩:=hrel;have HAr:=lh (HA.out.ext y1);by_cases hlt3:i<la
    ·have hiI:(i:Int)<la:=om;have hin:i<n:=om;have hil:i<ca.length:=by rw[HLA.out];exact hlt3
     have HAF:=fun(w':World) (x:Ext wr w')=>lh (show Calls Tryz.prog 171 #[.pointer (some ⟨ga,0,none⟩),.pointer (some ⟨gb,0,none⟩),.int .i32 (stF m ca i),.int .i32 (enF m ca i)] w' (RetV (.tuple #[.int .i32 (stF m (ca++cb) i),.int .i32 (enF m (ca++cb) i)]) w') by
      have h9:=HAF0.out w' (y1.trans x) (stF m ca i) (enF m ca i) (HSR i).1 (HSR i).2
      rw[(HST i om).out] at h9;exact h9)
     obtain⟨tb,tt,hA3,e1⟩:=HAr.out.st.getF hil;obtain⟨ub,uu,hA4,e2⟩:=HAr.out.en.getF hil;have qa4:wr.cell? ⟨ga,4,none⟩=some (.slice A3 la c3):=by
      have:=HAr.out.blk.cell 4
      rw[<-HLA.out];exact this
     have qa5:wr.cell? ⟨ga,5,none⟩=some (.slice A4 la c4):=by
      have:=HAr.out.blk.cell 5
      rw[<-HLA.out];exact this
     have hc3:=HAr.out.st.len;have hc4:=HAr.out.en.len;rw[upF_len,HLA.out] at hc3 hc4;have HAo:=HA.out;have htb:tb<w.heap.size:=by
      obtain⟨b',o',e',h'⟩:=HAo.st.getF hil;rw[hA3] at e';exact Y10z1
     have hub:ub<w.heap.size:=by
      obtain⟨b',o',e',h'⟩:=HAo.en.getF hil;rw[hA4] at e';exact Y10z1
     rw[hA3] at qa4;rw[hA4] at qa5;generalize stF m ca i=v1 at *;generalize enF m ca i=v2 at *;clear HAo hA3 hA4 hil;have j2:=fun(w':World) (h:Kp [b3,b4] wr w')=>h.cell (HW.out.bs.cell 4) (by simp[n3,n4]);have j3:=fun(w':World) (h:Kp [b3,b4] wr w')=>h.cell (HW.out.bs.cell 5) (by simp[n3,n4]);have ja2:=fun(w':World) (h:Kp [b3,b4] wr w')=>h.cell qa4 (by simp;omega);have ja3:=fun(w':World) (h:Kp [b3,b4] wr w')=>h.cell qa5 (by simp;omega);have je1:=fun(w':World) (h:Kp [b3,b4] wr w')=>h.cell e1 (by simp;omega);have je2:=fun(w':World) (h:Kp [b3,b4] wr w')=>h.cell e2 (by simp;omega)
     go_upto_region 10 with fail
     refine Xr.start [b3,b4] kr ?_;refine Xtk 0 ?_
     iterate 25(refine Xtn ?_)
     refine Xcl 26 fun w4 hE4 hK4 K hKK=>?_;go_simp;refine(HAF w4 hE4).out.mono ?_;rintro e w5 ⟨rfl,x5⟩;refine hKK _ _ x5 ?_;clear hKK;refine ptm ?_;refine Xtk 27 ?_
     iterate 3(refine Xtn ?_)
     have E45:=hE4.trans x5;refine Xsp 31 fun w6 hE6 hK6 K hKK=>?_;have W6:=HW.out.ext (E45.trans hE6);have c6:=W6.k3.cellK (i:=i) (by rw[upTo_len];exact hin);have f6:=W6.k3.frz i;go_simp;refine hKK _ _ (WI_setL (WI_refl _ _ _) List.mem_cons_self _ _) (hK6.setL List.mem_cons_self _ _) ?_;clear hKK;refine ptm ?_;refine Xtk 32 ?_;refine Xsp 33 fun w7 hE7 hK7 K hKK=>?_;have W7:=(W6.set3 i (stF m (ca++cb) i)).ext hE7;have c7:=W7.k4.cellK (i:=i) (by rw[upTo_len];exact hin);have f7:=W7.k4.frz i;go_simp;refine hKK _ _ (WI_setL (WI_refl _ _ _) (List.mem_cons_of_mem _ List.mem_cons_self) _ _) (hK7.setL (List.mem_cons_of_mem _ List.mem_cons_self) _ _) ?_;clear hKK;refine ptm ?_;refine Xdn fun w8 hE8 hK8=>?_;have W8:=(W7.set4 i (enF m (ca++cb) i)).ext hE8;rw[upTo_set,upTo_set] at W8;have HW8:=lh W8;have y8:Ext w w8:=((((y1.trans (E45.trans hE6)).setNew (p:=⟨b3,i,none⟩) l3 _).trans hE7).setNew (p:=⟨b4,i,none⟩) l4 _).trans hE8;exact Y10z3
    ·have hiI:¬(i:Int)<la:=om;obtain rfl:la=i:=om;have HBr:=lh (HB.out.ext y1);have qa1':=y1.cell qa1;have qb4:wr.cell? ⟨gb,4,none⟩=some (.slice B3 lb d3):=by
      have:=HBr.out.blk.cell 4
      rw[<-HLB.out];exact this
     have hd3:=HBr.out.st.len;rw[upF_len,HLB.out] at hd3;have j2:=fun(w':World) (h:Kp [b3] wr w')=>h.cell (HW.out.bs.cell 4) (by simp[n3]);have ja1:=fun(w':World) (h:Kp [b3] wr w')=>h.cell qa1' (by simp;omega);have jb4:=fun(w':World) (h:Kp [b3] wr w')=>h.cell qb4 (by simp;omega);have hilI:(la:Int)<=n:=om
     go_upto_region 12 with fail
     refine Xr.start [b3] kr ?_;refine Xtk 0 ?_
     iterate 7(refine Xtn ?_)
     refine Xr.take 8 (some 112) (v:=.slice (dropI (some ⟨b3,0,none⟩) n la) (n-la) (n-la)) rfl rfl dK (by rfl) (fun w' hk=>?_) ?_
     ·by_cases hcc:n=la
      ·have hd:dropI (some ⟨b3,0,none⟩) n la=some ⟨b3,0,none⟩:=by unfold dropI;rw[if_pos hcc]
       rw[hd];go_simp
      ·have hd:dropI (some ⟨b3,0,none⟩) n la=some ⟨b3,la,none⟩:=by unfold dropI;rw[if_neg hcc,Option.map_some,Addr.add_lit,Nat.zero_add]
       rw[hd];go_simp
     refine ptm ?_;refine Xtk 9 ?_
     iterate 3(refine Xtn ?_)
     refine Xsp 13 fun w6 hE6 hK6 K hKK=>?_;refine wp_copyK w6 (.tmp 112) (.tmp 116) 197 21 rfl Tryz.underlying197 kr (dropI (some ⟨b3,0,none⟩) n la) B3 (n-la) (n-la) d3 b3 la 21 (upTo (stF m (ca++cb)) la n) (upF (stF m cb) cb.length) (by go_simp) (by go_simp;rw[upF_len,HLB.out]) (HW.out.ext hE6).k3 (by rw[upTo_len,upF_len,HLB.out];have:=HN.out;omega) (fun hne=>?_) (by rw[upF_len,HLB.out];have:=HN.out;omega) (HBr.out.ext hE6).st (fun w7 hb7 hk7=>?_)
     ·exact Y10z2
     refine hKK _ _ (WI_kpP hk7 List.mem_cons_self) (hK6.thenP hk7 List.mem_cons_self) ?_;clear hKK;refine ptm ?_;refine Xdn fun w8 hE8 hK8=>?_;have W8:=((HW.out.ext hE6).copy3 hb7 hk7).ext hE8;rw[upF_len,HLB.out,splice_eq _ _ la lb n HN.out,HS3.out] at W8;have y8:Ext w w8:=((y1.trans hE6).thenQ hk7 l3).trans hE8;have HW8:=lh W8;clear W8 HW HAr HBr qa1' qb4 hd3 j2 ja1 jb4 hb7 hk7 hE6 hK6 hE8 hK8;have HBr:=lh (HB.out.ext y8);have qa1':=y8.cell qa1;have qb5:w8.cell? ⟨gb,5,none⟩=some (.slice B4 lb d4):=by
      have:=HBr.out.blk.cell 5
      rw[<-HLB.out];exact this
     have hd4:=HBr.out.en.len;rw[upF_len,HLB.out] at hd4;have j2:=fun(w':World) (h:Kp [b4] w8 w')=>h.cell (HW8.out.bs.cell 5) (by simp[n4]);have ja1:=fun(w':World) (h:Kp [b4] w8 w')=>h.cell qa1' (by simp;omega);have jb4:=fun(w':World) (h:Kp [b4] w8 w')=>h.cell qb5 (by simp;omega)
     go_upto_region 13 with fail
     refine Xr.start [b4] kr ?_;refine Xtk 0 ?_
     iterate 7(refine Xtn ?_)
     refine Xr.take 8 (some 126) (v:=.slice (dropI (some ⟨b4,0,none⟩) n la) (n-la) (n-la)) rfl rfl dK (by rfl) (fun w' hk=>?_) ?_
     ·by_cases hcc:n=la
      ·have hd:dropI (some ⟨b4,0,none⟩) n la=some ⟨b4,0,none⟩:=by unfold dropI;rw[if_pos hcc]
       rw[hd];go_simp
      ·have hd:dropI (some ⟨b4,0,none⟩) n la=some ⟨b4,la,none⟩:=by unfold dropI;rw[if_neg hcc,Option.map_some,Addr.add_lit,Nat.zero_add]
       rw[hd];go_simp
     refine ptm ?_;refine Xtk 9 ?_
     iterate 3(refine Xtn ?_)
     refine Xsp 13 fun w6 hE6 hK6 K hKK=>?_;refine wp_copyK w6 (.tmp 126) (.tmp 130) 197 21 rfl Tryz.underlying197 kr (dropI (some ⟨b4,0,none⟩) n la) B4 (n-la) (n-la) d4 b4 la 21 (upTo (enF m (ca++cb)) la n) (upF (enF m cb) cb.length) (by go_simp) (by go_simp;rw[upF_len,HLB.out]) (HW8.out.ext hE6).k4 (by rw[upTo_len,upF_len,HLB.out];have:=HN.out;omega) (fun hne=>?_) (by rw[upF_len,HLB.out];have:=HN.out;omega) (HBr.out.ext hE6).en (fun w7 hb7 hk7=>?_)
     ·exact Y10z2
     refine hKK _ _ (WI_kpP hk7 List.mem_cons_self) (hK6.thenP hk7 List.mem_cons_self) ?_;clear hKK;refine ptm ?_;refine Xdn fun w9 hE9 hK9=>?_;have W9:=((HW8.out.ext hE6).copy4 hb7 hk7).ext hE9;rw[upF_len,HLB.out,splice_mix _ _ la lb n HN.out] at W9;have y9:Ext w w9:=((y8.trans hE6).thenQ hk7 l4).trans hE9;have HW9:Hid (WhI w9 w g m.next.length n gs b1 b2 b3 b4 (upTo (tgF m (ca++cb)) m.next.length m.next.length) (upTo (laF m (ca++cb)) m.next.length m.next.length) (upF (stF m (ca++cb)) n) (mixE (enF m (ca++cb)) (enF m cb) la la n)):=lh W9;clear W9 HW8 HBr qa1' qb5 hd4 j2 ja1 jb4 hb7 hk7 hE6 hK6 hE9 hK9;have qa1':=y9.cell qa1
     go_upto_region 15 with fail
     clear qa1'
     go_loopw [10] (fun v wr=>∃k:Nat,v=.int .i64 k/\la<=k/\k<=n/\Hid (WhI wr w g m.next.length n gs b1 b2 b3 b4 (upTo (tgF m (ca++cb)) m.next.length m.next.length) (upTo (laF m (ca++cb)) m.next.length m.next.length) (upF (stF m (ca++cb)) n) (mixE (enF m (ca++cb)) (enF m cb) la k n))/\Ext w wr) (fun v _=>n-(intOf v).toNat)
     case atStart=>exact⟨la,rfl,Nat.le_refl _,om,HW9,y9⟩
     case round=>
      obtain⟨k,rfl,hk0,hk,HW,y1⟩:=hrel;have g1:wr.cell? ⟨gs,1,none⟩=some (.int .i64 n):=HW.out.bs.cell 1;by_cases hlt4:k<n
      ·have hkI:(k:Int)<n:=om;have g5:wr.cell? ⟨gs,5,none⟩=some (.slice (some ⟨b4,0,none⟩) n n):=HW.out.bs.cell 5;have gk:=HW.out.k4.cellK (i:=k) (by rw[mixE_len];exact hlt4);rw[mixE_get hlt4] at gk;have hr0:=HER k hk0;have hxr:=HXR (k-la) (by have:=HN.out;omega);obtain⟨x,hx0⟩:∃x,Hid (enF m cb (k-la)=x):=⟨_,lh rfl⟩;rw[hx0.out] at gk hr0 hxr;have HR:=lh hr0;clear hr0;have qa1':=y1.cell qa1;by_cases hx:x = -1
       ·subst hx;have HW2:=HW.out;rw[mixE_keep _ _ _ _ _ (by rw[HR.out,hx0.out,if_pos rfl])] at HW2;have HW3:=lh HW2;clear HW2 HR
        go_wp2_with fail
        go_roundw
        case rel=>exact⟨k+1,by go_num,om,om,HW3,y1⟩
        case measure=>simp[intOf];omega
       ·have HV:Hid (enF m (ca++cb) k=x+la):=lh (by rw[HR.out,if_neg hx];omega);have hw1:IntKind.i32.wrap (la:Int)=la:=by rw[IntKind.wrap_i32];omega
        have hw2:IntKind.i32.wrap (x+la)=x+la:=by rw[IntKind.wrap_i32];omega
        have kq1:=kx0 g5;have kq2:=kx0 gk;have kq3:=kx0 qa1';clear HR
        go_upto_region 18 with fail
        refine Xs.start [b4] 14 kr ?_;refine Xst 0 ?_;refine Xst 1 ?_;refine Xst 2 ?_;refine Xst 3 ?_;refine Xst 4 ?_;refine Xst 5 ?_;refine Xst 6 ?_;refine Xst 7 ?_;refine Xst 8 ?_;refine Xst 9 ?_;refine Xst 10 ?_;refine Xst 11 ?_;refine Xst 12 ?_;refine Xst 13 ?_;refine Xs.stop dK (fun w6 hE6 hX6=>?_);refine Xsp 14 fun w7 hE7 hK7 K hKK=>?_;have x67:=hX6.trans hE7;have W7:=HW.out.ext x67;have hc7:=x67.cell gk;have hz7:=W7.k4.frz k;go_simp;refine hKK _ _ (WI_setL (WI_refl _ _ _) List.mem_cons_self _ _) (hK7.setL List.mem_cons_self _ _) ?_;clear hKK;refine ptm ?_;refine Xdn fun w8 hE8 hK8=>?_;have W8:=(W7.set4 k (x+la)).ext hE8
        rw[<-HV.out,mixE_set] at W8;have HW8:=lh W8
        rw[<-HV.out] at hE8;have y8:Ext w w8:=((y1.trans x67).setNew (p:=⟨b4,k,none⟩) l4 _).trans hE8;clear W7 W8 hc7 hz7 kq1 kq2 kq3
        go_wp2_with fail
        go_roundw
        case rel=>exact⟨k+1,by go_num,om,om,HW8,y8⟩
        case measure=>simp[intOf];omega
      ·have hkI:¬(k:Int)<n:=om;obtain rfl:n=k:=om;have hW:=HW.out;rw[mixE_all,upTo_all _ _ _ (Nat.le_refl _),upTo_all _ _ _ (Nat.le_refl _)] at hW;have HLN:(ca++cb).length=n:=by rw[List.length_append,HLA.out,HLB.out,HN.out]
       have HSM:∃s,SmAt wr gs s/\SumOf m g (ca++cb) s:=by
        refine WhI.sum HO.out (fun c hc=>(List.mem_append.1 hc).elim (HCA.out c) (HCB.out c)) (by rw[HLN];exact hnl) (w0:=w) (b1:=b1) (b2:=b2) (b3:=b3) (b4:=b4) ?_;rw[HLN];exact hW
       have HSH:=lh HSM;clear hW HSM HLN
       go_wp2_with fail
       go_ret
       obtain⟨s,h1,h2⟩:=HSH.out;exact⟨gs,s,rfl,h1,h2,y1⟩
theorem IL.takeQ {w:World}{A:Option Addr}{c k:Nat}{xs:List Int}(h:IL w A c xs)(hk:k<=xs.length):IL w A c (xs.take k):=by
 have h1:=h.le;refine⟨by rw[List.length_take];omega,h.cap,fun x hx=>h.rng x (List.mem_of_mem_take hx),fun hn=>?_⟩;obtain⟨b,o,rfl,hc⟩:=h.at_ (by rintro rfl;simp at hn);refine⟨b,o,rfl,fun i hi=>?_⟩;rw[List.getElem_take];exact hc i (by rw[List.length_take] at hi;omega)
theorem join_sum (w:World)(g:Nat)(m:Ma)(nc:Nat)(hm:MaAt w g m)(ok:MaOk nc m)(ga gb:Nat)(sa sb:Sm)(ca cb:List Nat)(ha:SmAt w ga sa)(ka:SumOf m g ca sa)(hb:SmAt w gb sb)(kb:SumOf m g cb sb)
 (hca:∀c∈ca,c<nc) (hcb:∀c∈cb,c<nc) (hlen:ca.length+cb.length<=1000000) :
 Calls Tryz.prog 109 #[.pointer (some ⟨g,0,none⟩),.pointer (some ⟨ga,0,none⟩),.pointer (some ⟨gb,0,none⟩)] w (RetSum m g (ca++cb) w):=by
 refine join_any w g m nc hm ok ga gb ca cb _ _ _ _ _ _ _ _ _ _ _ _ _ _ _ _ (SmC.of ha ka) (SmC.of hb kb) hca hcb hlen (fun w' x st la h0 h1=>?_);have h:=after_any w' ga gb sa sb (ha.ext x) (hb.ext x) (by rw[ka.len];omega) (by rw[kb.last,kb.tg,upF_len,upF_len]) (fun y hy=>by
  rw[kb.last] at hy;obtain⟨i,hi,rfl⟩:=upF_mem hy;have:=laF_rng (m:=m) (cl:=cb) i;omega) st la h0 (by rw[kb.tg,upF_len];exact h1)
 rw[ka.len,kb.tg,kb.last] at h;exact h
theorem piece_short (w:World)(g:Nat)(m:Ma)(nc:Nat)(strt:List Sp)(hM:MachAt w g m nc strt)(cf:Int->Nat)(T:Option Addr)(tc:Nat)(ts:List Int)(hT:IL w T tc ts)(hcf:SymsOk strt nc cf ts)(h32:ts.length<=32) :
 Calls Tryz.prog 91 #[.pointer (some ⟨g,0,none⟩),.slice T ts.length tc] w (RetSum m g (ts.map cf) w):=by
 have HW:=lh (whole_any w g m nc strt hM cf T tc ts hT om hcf);have hI:(ts.length:Int)<=32:=om;have hcap:=hT.len;clear hM hT hcf;go_enter Tryz.func91,Tryz.ntmps91
 go_upto_region 3 with fail
 refine HW.out.mono ?_;rintro e w1 ⟨gs,s,rfl,h1,h2,x⟩
 go_wp2_with fail
 go_ret
 exact⟨gs,s,rfl,h1,h2,x⟩
theorem piece_any (g:Nat)(m:Ma)(nc:Nat)(strt:List Sp)(cf:Int->Nat):∀(f:Nat) (w:World),MachAt w g m nc strt->∀(T:Option Addr) (tc:Nat) (ts:List Int),IL w T tc ts->ts.length<=f->ts.length<=1000000->SymsOk strt nc cf ts->
 Calls Tryz.prog 91 #[.pointer (some ⟨g,0,none⟩),.slice T ts.length tc] w (RetSum m g (ts.map cf) w):=by
 intro f;induction f with
 | zero=>exact fun w hM T tc ts hT hf _ hcf=>piece_short w g m nc strt hM cf T tc ts hT hcf om
 | succ f ih=>
  intro w hM T tc ts hT hf htl hcf;by_cases h32:ts.length<=32
  ·exact piece_short w g m nc strt hM cf T tc ts hT hcf h32
  ·have hI:¬(ts.length:Int)<=32:=om;obtain⟨half,hhalf⟩:∃half,half=ts.length / 2:=⟨_,rfl⟩;have hcap:=hT.len;have hdv:IntKind.i64.wrap ((ts.length:Int) / 2)=(half:Int):=wj;have hb1:half<=ts.length:=om;have hb2:half<tc:=om;have hl1:(ts.take half).length=half:=by rw[List.length_take];omega
   have hl2:(ts.drop half).length=ts.length-half:=List.length_drop;have HP1:=fun(w':World) (x:Ext w w')=>lh (show Calls Tryz.prog 91 #[.pointer (some ⟨g,0,none⟩),.slice T half tc] w' (RetSum m g ((ts.take half).map cf) w') by
    have h:=ih w' (hM.ext x) T tc (ts.take half) ((hT.ext x).takeQ hb1) om om (fun y hy=>hcf y (List.mem_of_mem_take hy));rw[hl1] at h;exact h)
   have HP2:=fun(w':World) (x:Ext w w')=>lh (show Calls Tryz.prog 91 #[.pointer (some ⟨g,0,none⟩),.slice (dropI T tc half) (ts.length-half) (tc-half)] w' (RetSum m g ((ts.drop half).map cf) w') by
    have h:=ih w' (hM.ext x) (dropI T tc half) (tc-half) (ts.drop half) ((hT.ext x).dropN hb1) om om (fun y hy=>hcf y (List.mem_of_mem_drop hy));rw[hl2] at h;exact h)
   have HJ:=fun(w':World) (x:Ext w w') (ga gb:Nat) (sa sb:Sm) (ha:SmAt w' ga sa) (ka:SumOf m g ((ts.take half).map cf) sa) (hb:SmAt w' gb sb) (kb:SumOf m g ((ts.drop half).map cf) sb)=>
    lh (show Calls Tryz.prog 109 #[.pointer (some ⟨g,0,none⟩),.pointer (some ⟨ga,0,none⟩),.pointer (some ⟨gb,0,none⟩)] w' (RetSum m g (ts.map cf) w') by
     have h:=join_sum w' g m nc (hM.ext x).at_ hM.ok ga gb sa sb _ _ ha ka hb kb (fun c hc=>by obtain⟨y,hy,rfl⟩:=List.mem_map.1 hc;exact(hcf y (List.mem_of_mem_take hy)).2) (fun c hc=>by obtain⟨y,hy,rfl⟩:=List.mem_map.1 hc;exact(hcf y (List.mem_of_mem_drop hy)).2) (by rw[List.length_map,List.length_map,hl1,hl2];omega)
     rw[<-List.map_append,List.take_append_drop] at h;exact h)
   have hbI:(half:Int)<=ts.length:=om;have hbI2:(half:Int)<=tc:=om;have hcc:tc≠half:=om;have HHF:=lh hhalf;clear hM hT hcf hhalf hl1 hl2 ih;go_enter Tryz.func91,Tryz.ntmps91
   go_upto_region 4 with fail
   refine Xr.start [] kr ?_;refine Xtk 0 ?_
   iterate 3(refine Xtn ?_)
   refine Xr.take 4 (some 19) (v:=.slice T half tc) rfl rfl dK (by rfl) (fun w' hk=>by go_simp) ?_;refine ptm ?_;refine Xtk 6 ?_
   iterate 2(refine Xtn ?_)
   refine Xr.take 9 (some 24) (v:=.slice (dropI T tc half) (ts.length-half) (tc-half)) rfl rfl dK (by rfl) (fun w' hk=>?_) ?_
   ·have hd:dropI T tc half=T.map (fun x=>x.add half):=by unfold dropI;rw[if_neg hcc]
    rw[hd];go_simp
   refine ptm ?_;refine Xcl 5 fun w1 hE1 hK1 K hKK=>?_;go_simp;refine(HP1 w1 hE1).out.mono ?_;rintro e w2 ⟨ga,sa,rfl,ha,ka,x2⟩;refine hKK _ _ x2 ?_;clear hKK;refine ptm ?_;refine Xcl 10 fun w3 hE3 hK3 K hKK=>?_;go_simp;refine(HP2 w3 ((hE1.trans x2).trans hE3)).out.mono ?_;rintro e w4 ⟨gb,sb,rfl,hb,kb,x4⟩;refine hKK _ _ x4 ?_;clear hKK;refine ptm ?_;refine Xcl 11 fun w5 hE5 hK5 K hKK=>?_;go_simp;refine(HJ w5 ((((hE1.trans x2).trans hE3).trans x4).trans hE5) ga gb sa sb (ha.ext ((hE3.trans x4).trans hE5)) ka (hb.ext hE5) kb).out.mono ?_;rintro e w6 ⟨gs,s,rfl,hs,ks,x6⟩;refine hKK _ _ x6 ?_;clear hKK;refine ptm ?_;refine Xtk 12 ?_;refine Xdn fun w7 hE7 hK7=>?_;have hs7:=hs.ext hE7;have X7:=(((((hE1.trans x2).trans hE3).trans x4).trans hE5).trans x6).trans hE7;clear HP1 HP2 HJ ha ka hb kb hs
   go_wp2_with fail
   go_ret
   exact⟨gs,s,rfl,hs7,ks,X7⟩
theorem empty_any (w:World)(g:Nat)(m:Ma)(nc:Nat)(strt:List Sp)(hM:MachAt w g m nc strt) :
 Calls Tryz.prog 42 #[.pointer (some ⟨g,0,none⟩)] w (RetSum m g [] w):=by
 have HW:=lh (whole_any w g m nc strt hM (fun _=>0) none 0 [] (IL.nil w) si (fun x hx=>by simp at hx));clear hM;go_enter Tryz.func42,Tryz.ntmps42
 go_upto_region 2 with fail
 refine HW.out.mono ?_;rintro e w1 ⟨gs,s,rfl,h1,h2,x⟩
 go_wp2_with fail
 go_ret
 exact⟨gs,s,rfl,h1,h2,x⟩
def RetSumE (m:Ma)(g:Nat)(cl:List Nat)(w:World)(e:Ending)(w':World):Prop:=∃(gs:Nat) (s:Sm),e=.returned (.tuple #[.pointer (some ⟨gs,0,none⟩),.int .i64 0])/\SmAt w' gs s/\SumOf m g cl s/\Ext w w'
theorem of_any2 (w:World)(g:Nat)(m:Ma)(nc:Nat)(strt:List Sp)(hM:MachAt w g m nc strt)(cf:Int->Nat)(T:Option Addr)(tc:Nat)(ts:List Int)(hT:IL w T tc ts)(hv:textE m.runes ts=0)(htl:ts.length<=1000000)(hcf:SymsOk strt nc cf ts) :
 Calls Tryz.prog 21 #[.pointer (some ⟨g,0,none⟩),.slice T ts.length tc] w (RetSumE m g (ts.map cf) w):=by
 have HV:=lh (tvalid_any T tc ts m.runes w hT);rw[hv] at HV;have HP:=fun(w':World) (x:Ext w w')=>lh (piece_any g m nc strt cf ts.length w' (hM.ext x) T tc ts (hT.ext x) (Nat.le_refl _) htl hcf);have c0:w.cell? ⟨g,0,none⟩=some (.bool m.runes):=hM.at_.blk.cell 0;have hcap:=hT.len;clear hM hT hcf hv;go_enter Tryz.func21,Tryz.ntmps21
 go_upto_region 2 with fail
 refine HV.out.mono ?_;rintro e w1 ⟨rfl,x1⟩
 go_upto_region 5 with fail
 refine(HP w1 x1).out.mono ?_;rintro e w2 ⟨gs,s,rfl,h1,h2,x⟩
 go_wp2_with fail
 go_ret2
 exact⟨gs,s,rfl,h1,h2,x1.trans x⟩
theorem joinX_any (w:World)(g:Nat)(m:Ma)(nc:Nat)(hm:MaAt w g m)(ok:MaOk nc m)(ga gb:Nat)(sa sb:Sm)(ca cb:List Nat)(ha:SmAt w ga sa)(ka:SumOf m g ca sa)(hb:SmAt w gb sb)(kb:SumOf m g cb sb)
 (hca:∀c∈ca,c<nc) (hcb:∀c∈cb,c<nc) (hlen:ca.length+cb.length<=65536) :
 Calls Tryz.prog 36 #[.pointer (some ⟨g,0,none⟩),.pointer (some ⟨ga,0,none⟩),.pointer (some ⟨gb,0,none⟩)] w (RetSumE m g (ca++cb) w):=by
 have H1:=fun(w':World) (x:Ext w w')=>lh (show Calls Tryz.prog 108 #[.pointer (some ⟨g,0,none⟩),.pointer (some ⟨ga,0,none⟩)] w' (RetV (.bool true) w') by
  have h:=owns_any w' g ga sa (ha.ext x) _ _ _ _ (hm.ext x).blk (by rw[ka.mch];exact(hm.ext x).blk);rw[ka.mch,decide_eq_true rfl] at h;exact h)
 have H2:=fun(w':World) (x:Ext w w')=>lh (show Calls Tryz.prog 108 #[.pointer (some ⟨g,0,none⟩),.pointer (some ⟨gb,0,none⟩)] w' (RetV (.bool true) w') by
  have h:=owns_any w' g gb sb (hb.ext x) _ _ _ _ (hm.ext x).blk (by rw[kb.mch];exact(hm.ext x).blk);rw[kb.mch,decide_eq_true rfl] at h;exact h)
 have HJ:=fun(w':World) (x:Ext w w')=>lh (join_sum w' g m nc (hm.ext x) ok ga gb sa sb ca cb (ha.ext x) ka (hb.ext x) kb hca hcb om);have qa1:w.cell? ⟨ga,1,none⟩=some (.int .i64 ca.length):=by rw[<-ka.len];exact ha.blk.cell 1
 have qb1:w.cell? ⟨gb,1,none⟩=some (.int .i64 cb.length):=by rw[<-kb.len];exact hb.blk.cell 1
 have hI:¬(65536:Int)<(ca.length:Int)+cb.length:=om;have hwr:IntKind.i64.wrap ((ca.length:Int)+cb.length)=(ca.length:Int)+cb.length:=wj;clear hm ok ha ka hb kb hca hcb;go_enter Tryz.func36,Tryz.ntmps36
 go_upto_region 2 with fail
 refine(H1 w (Ext.rfl' _)).out.mono ?_;rintro e w1 ⟨rfl,x1⟩
 go_wp2_with fail
 refine(H2 w1 x1).out.mono ?_;rintro e w2 ⟨rfl,x2⟩;have X2:=x1.trans x2;have ra1:=X2.cell qa1;have rb1:=X2.cell qb1;clear H1 H2 qa1 qb1;have ja1:=kc0 ra1;have jb1:=kc0 rb1
 go_upto_region 3 with fail
 refine Xr.start [] kr ?_;refine Xtk 0 ?_
 iterate 9(refine Xtn ?_)
 refine Xdn fun w3 hE3 hK3=>?_;have X3:=X2.trans hE3;clear ja1 jb1 ra1 rb1
 go_upto_region 6 with fail
 refine(HJ w3 X3).out.mono ?_;rintro e w4 ⟨gs,s,rfl,h1,h2,x4⟩
 go_wp2_with fail
 go_ret2
 exact⟨gs,s,rfl,h1,h2,X3.trans x4⟩
end
end Go.Proofs.YtmpcoifnpflapaaGreat
