/- Texts of this proof: K15 Y1 Y2 Y3. -/
import Derived.Test.YtmpcoifnpflapaaGreatER14
import Derived.Test.YtmpcoifnpflapaaGreatER17
import Derived.Test.YtmpcoifnpflapaaGreatER18
import Derived.LaidEqlPtr
set_option linter.all false
set_option maxRecDepth 100000
set_option maxHeartbeats 8000000
namespace Go.Proofs.YtmpcoifnpflapaaGreat
section
open Go.RowKit
attribute [local go_sem ↓] Go.wp_at_zero Go.wp_at_succ
def dropI (A:Option Addr)(c k:Nat):Option Addr:=if c=k then A else A.map (fun x=>x.add k)
theorem IL.dropN {w:World}{A:Option Addr}{c k:Nat}{xs:List Int}(h:IL w A c xs)(hk:k<=xs.length):IL w (dropI A c k) (c-k) (xs.drop k):=by
 have h1:=h.le;have h2:=h.cap;refine⟨by rw[List.length_drop];omega,om,fun x hx=>h.rng x (List.mem_of_mem_drop hx),fun hn=>?_⟩;have hlt:k<xs.length:=by
  rcases Nat.lt_or_ge k xs.length with h3|h3
  ·exact h3
  ·exact absurd (List.drop_eq_nil_of_le h3) hn
 obtain⟨b,o,rfl,hc⟩:=h.at_ (by rintro rfl;simp at hlt);unfold dropI;rw[if_neg om];refine⟨b,o+k,by rw[Option.map_some,Addr.add_lit],fun i hi=>?_⟩;rw[List.getElem_drop,Nat.add_assoc];exact hc (k+i) (by rw[List.length_drop] at hi;omega)
theorem SL.of_ownT {w:World}{base T c:Nat}{A:Option Addr}{l:List Sp}(h:OwnS w base T 2 A l.length c (flatS l))(hr:∀s∈l,S64 s):SL w A c l:=by
 have hc:=OwnS.caps h;refine⟨hc.1,by unfold maxLen;omega,hr,fun hn=>?_⟩;obtain⟨b,o,hA,hcell⟩:=OwnS.cells h (by intro e;have:=flatS_len l;rw[e] at this;simp at this;exact hn (List.length_eq_zero_iff.1 om));have one:∀(i:Nat) (v:Value),(flatS l)[i]? = some v->w.cell? ⟨b,o+i,none⟩=some v:=fun i v hv=>by
  obtain⟨l1,e1⟩:=List.getElem?_eq_some_iff.1 hv;rw[hcell i l1,e1]
 exact⟨b,o,hA,fun i hi=>⟨one _ _ (flatS_get l i hi).1,by rw[Nat.add_assoc];exact one _ _ (flatS_get l i hi).2⟩⟩
def I32 (x:Int):Prop:=-2147483648<=x/\x<=2147483647
structure KL (w:World)(A:Option Addr)(c:Nat)(xs:List Int):Prop where
 le:xs.length<=c
 cap:c<=maxLen
 rng:∀x∈xs,I32 x
 at_:xs≠[]->∃b o,A=some ⟨b,o,none⟩/\∀i (h:i<xs.length),w.cell? ⟨b,o+i,none⟩=some (.int .i32 xs[i])
namespace KL
variable {w w':World} {A:Option Addr} {c:Nat} {xs:List Int}
theorem ext (h:KL w A c xs)(k:Ext w w'):KL w' A c xs:=by
 refine⟨h.le,h.cap,h.rng,fun hn=>?_⟩;obtain⟨b,o,rfl,hc⟩:=h.at_ hn;exact⟨b,o,rfl,fun i hi=>k.cell (hc i hi)⟩
theorem len (h:KL w A c xs):xs.length<=c/\c<=9223372036854775807:=⟨h.le,by have:=h.cap;unfold maxLen at this;omega⟩
theorem get {k:Nat}(h:KL w A c xs)(hk:k<xs.length):∃b o,A=some ⟨b,o,none⟩/\w.cell? ⟨b,o+k,none⟩=some (.int .i32 xs[k]):=by
 obtain⟨b,o,rfl,hc⟩:=h.at_ (by intro h0;subst h0;simp at hk);exact⟨b,o,rfl,hc k hk⟩
end KL
structure Sm where
 m:Nat
 len:Nat
 tA:Option Addr
 tc:Nat
 tg:List Int
 lA:Option Addr
 lc:Nat
 last:List Int
 sA:Option Addr
 sc:Nat
 st:List Int
 eA:Option Addr
 ec:Nat
 en:List Int
def smCells (s:Sm):Array Value:=#[.pointer (some ⟨s.m,0,none⟩),.int .i64 s.len,.slice s.tA s.tg.length s.tc,.slice s.lA s.last.length s.lc,.slice s.sA s.st.length s.sc,.slice s.eA s.en.length s.ec]
structure SmAt (w:World)(g:Nat)(s:Sm):Prop where
 blk:Blk w g 199 (smCells s)
 tg:KL w s.tA s.tc s.tg
 last:KL w s.lA s.lc s.last
 st:KL w s.sA s.sc s.st
 en:KL w s.eA s.ec s.en
 ty:∀A∈[s.tA,s.lA,s.sA,s.eA],∀b,A.map (·.block)=some b->∃cur,w.heap[b]? = some (.cells cur 21 (0,0))
theorem SmAt.ext {w w':World}{g:Nat}{s:Sm}(h:SmAt w g s)(k:Ext w w'):SmAt w' g s:=⟨h.blk.ext k,h.tg.ext k,h.last.ext k,h.st.ext k,h.en.ext k,fun A hA b e=>by
 obtain⟨cur,q⟩:=h.ty A hA b e;exact⟨cur,(k.block b (Array.getElem?_eq_some_iff.1 q).1).trans q⟩⟩
def aftG (n:Nat)(tg last:List Int)(st la:Int):Int×Int:=
 if st = -1 then(-1,la) else(tg.getD st.toNat 0,if last.getD st.toNat 0 = -1 then la else(n:Int)+last.getD st.toNat 0)
theorem after_any (w:World)(ga gb:Nat)(a b:Sm)(ha:SmAt w ga a)(hb:SmAt w gb b)(hlen:a.len<=1000000)(hl:b.last.length=b.tg.length)(hlr:∀x∈b.last,-1<=x/\x<=1000000)(st la:Int)(h0 : -1<=st)(h1:st<b.tg.length) :
 Calls Tryz.prog 171 #[.pointer (some ⟨ga,0,none⟩),.pointer (some ⟨gb,0,none⟩),.int .i32 st,.int .i32 la] w (RetV (.tuple #[.int .i32 (aftG a.len b.tg b.last st la).1,.int .i32 (aftG a.len b.tg b.last st la).2]) w):=by
 by_cases hd:st = -1
 ·subst hd;have HA:=lh (show aftG a.len b.tg b.last (-1) la=(-1,la) by simp[aftG]);rw[HA.out];go_enter Tryz.func171,Tryz.ntmps171
  go_wp2_with fail
  go_ret2
  exact⟨rfl,Ext.rfl' _⟩
 ·obtain⟨k,rfl⟩:∃k:Nat,st=k:=⟨st.toNat,om⟩;have hk:k<b.tg.length:=om;have hk2:k<b.last.length:=om;obtain⟨tb,oo,htA,ct⟩:=hb.tg.get hk;obtain⟨lb,lo,hlA,cl⟩:=hb.last.get hk2;have r1:w.cell? ⟨ga,1,none⟩=some (.int .i64 a.len):=ha.blk.cell 1;have q2:w.cell? ⟨gb,2,none⟩=some (.slice b.tA b.tg.length b.tc):=hb.blk.cell 2;have q3:w.cell? ⟨gb,3,none⟩=some (.slice b.lA b.last.length b.lc):=hb.blk.cell 3;have hrl:=hlr _ (List.getElem_mem hk2);have HA:=lh (show aftG a.len b.tg b.last (k:Int) la=(b.tg[k],if b.last[k] = -1 then la else(a.len:Int)+b.last[k]) by
   unfold aftG;rw[if_neg om];simp[List.getD_eq_getElem?_getD,hk,hk2])
  rw[HA.out];rw[htA] at q2;rw[hlA,hl] at q3;have hw1:IntKind.i32.wrap (a.len:Int)=a.len:=wraps_i32 _ om om;generalize b.last[k]=x at *;generalize b.tg[k]=y at *;clear HA hl htA hlA hlr h0 h1 hk2 ha hb;generalize b.tg.length=n at *;have hkI:(k:Int)<n:=om;by_cases hx:x = -1
  ·subst hx;simp only[if_true];go_enter Tryz.func171,Tryz.ntmps171
   go_wp2_with fail
   go_ret2
   exact⟨rfl,Ext.rfl' _⟩
  ·rw[if_neg hx];have hw2:IntKind.i32.wrap ((a.len:Int)+x)=a.len+x:=wraps_i32 _ om om;go_enter Tryz.func171,Tryz.ntmps171;have j1:=kc0 r1;have j3:=kc0 q3;have jl:=kc0 cl
   go_upto_region 4 with fail
   refine Xr.start [] kr ?_;refine Xtk 0 ?_
   iterate 13(refine Xtn ?_)
   refine Xdn fun w4 hE4 hK4=>?_;have r2':w4.cell? ⟨gb,2,none⟩=some (.slice (some ⟨tb,oo,none⟩) n b.tc):=hE4.cell q2;have ct':=hE4.cell ct;clear j1 j3 jl r1 q2 q3 ct cl
   go_wp2_with fail
   go_ret2
   exact⟨rfl,hE4⟩
structure Kr where
 A:Option Addr
 c:Nat
 l:List Int
structure NXL (w:World)(A:Option Addr)(c:Nat)(hs:List Kr):Prop where
 le:hs.length<=c
 cap:c<=maxLen
 il:∀h∈hs,KL w h.A h.c h.l
 at_:hs≠[]->∃b o,A=some ⟨b,o,none⟩/\∀i (h:i<hs.length),w.cell? ⟨b,o+i,none⟩=some (.slice hs[i].A hs[i].l.length hs[i].c)
namespace NXL
variable {w w':World} {A:Option Addr} {c:Nat} {hs:List Kr}
theorem ext (h:NXL w A c hs)(k:Ext w w'):NXL w' A c hs:=by
 refine⟨h.le,h.cap,fun z hz=>(h.il z hz).ext k,fun hn=>?_⟩;obtain⟨b,o,rfl,hc⟩:=h.at_ hn;exact⟨b,o,rfl,fun i hi=>k.cell (hc i hi)⟩
theorem len (h:NXL w A c hs):hs.length<=c/\c<=9223372036854775807:=⟨h.le,by have:=h.cap;unfold maxLen at this;omega⟩
theorem get {k:Nat}(h:NXL w A c hs)(hk:k<hs.length):∃b o,A=some ⟨b,o,none⟩/\w.cell? ⟨b,o+k,none⟩=some (.slice hs[k].A hs[k].l.length hs[k].c)/\KL w hs[k].A hs[k].c hs[k].l:=by
 obtain⟨b,o,rfl,hc⟩:=h.at_ (by intro h0;subst h0;simp at hk);exact⟨b,o,rfl,hc k hk,h.il _ (List.getElem_mem hk)⟩
end NXL
def rowsOf (hs:List Kr):List (List Int):=hs.map (·.l)
theorem rowsOf_len (hs:List Kr):(rowsOf hs).length=hs.length:=by simp[rowsOf]
structure Ma where
 runes:Bool
 rA:Option Addr
 rn:Nat
 rc:Nat
 first:Int
 nA:Option Addr
 nc:Nat
 next:List Kr
 dA:Option Addr
 dc:Nat
 done:List Bool
 oA:Option Addr
 oc:Nat
 opn:List Bool
def maCells (m:Ma):Array Value:=#[.bool m.runes,.slice m.rA m.rn m.rc,.int .i32 m.first,.slice m.nA m.next.length m.nc,.slice m.dA m.done.length m.dc,.slice m.oA m.opn.length m.oc]
structure MaAt (w:World)(g:Nat)(m:Ma):Prop where
 blk:Blk w g 145 (maCells m)
 nx:NXL w m.nA m.nc m.next
 dn:IB w m.dA m.dc m.done
 op:IB w m.oA m.oc m.opn
theorem MaAt.ext {w w':World}{g:Nat}{m:Ma}(h:MaAt w g m)(k:Ext w w'):MaAt w' g m:=⟨h.blk.ext k,h.nx.ext k,h.dn.ext k,h.op.ext k⟩
structure MaOk (nc:Nat)(m:Ma):Prop where
 row:∀h∈m.next,h.l.length=nc
 rng:∀h∈m.next,∀x∈h.l,-1<=x/\x<m.next.length
 dl:m.done.length=m.next.length
 len:m.next.length<=1000000
 first : -1<=m.first/\m.first<m.next.length
def runP (nx:List (List Int))(dn:List Bool):List Int->Nat->Int->Int->Int×Int
 | [],_,st,la=>(st,la)
 | c::cs,k,st,la=>if st = -1 then(st,la) else
  runP nx dn cs (k+1) ((nx.getD st.toNat []).getD c.toNat 0) (if(nx.getD st.toNat []).getD c.toNat 0≠-1/\dn.getD ((nx.getD st.toNat []).getD c.toNat 0).toNat false=true then((k+1:Nat):Int) else la)
theorem runP_dead (nx:List (List Int))(dn:List Bool)(l:List Int)(k:Nat)(la:Int):runP nx dn l k (-1) la=(-1,la):=by
 cases l<;>simp[runP]
theorem run_any (w:World)(g:Nat)(m:Ma)(nc:Nat)(hm:MaAt w g m)(ok:MaOk nc m)(CA:Option Addr)(cc:Nat)(cs:List Int)(hC:IL w CA cc cs)(hcl:cs.length<=1000000)(hcr:∀x∈cs,0<=x/\x<nc)(st:Int)(h0 : -1<=st)(h1:st<m.next.length)(fr:Nat)(hfr:fr<=cs.length)(la:Int) :
 Calls Tryz.prog 173 #[.pointer (some ⟨g,0,none⟩),.int .i32 st,.slice CA cs.length cc,.int .i64 fr,.int .i32 la] w (RetV (.tuple #[.int .i32 (runP (rowsOf m.next) m.done (cs.drop fr) fr st la).1,.int .i32 (runP (rowsOf m.next) m.done (cs.drop fr) fr st la).2]) w):=by
 have hcc:=hC.len;have hnl:=hm.nx.len;have hdl:=hm.dn.len;have DL:=lh ok.dl;have OK:=lh ok;have hmx:=ok.len;have HM:=lh hm;have HC:=lh hC;have HCR:=lh hcr;obtain⟨res,hres⟩:∃res,Hid (runP (rowsOf m.next) m.done (cs.drop fr) fr st la=res):=⟨_,lh rfl⟩;rw[hres.out];clear ok hm hC hcr;go_enter Tryz.func173,Tryz.ntmps173
 go_upto_region 2 with fail
 go_loopw [1,4,12] (fun v1 v4 v7 wr=>∃(s l:Int) (k:Nat),v1=.int .i32 s/\v4=.int .i32 l/\v7=.int .i64 k/\k<=cs.length/\-1<=s/\s<m.next.length/\Hid (runP (rowsOf m.next) m.done (cs.drop k) k s l=res)/\Ext w wr) (fun _ _ v _=>cs.length-(intOf v).toNat)
 case atStart=>exact⟨st,la,fr,rfl,rfl,rfl,hfr,h0,h1,hres,Ext.rfl' _⟩
 case round=>
  obtain⟨s,l,k,rfl,rfl,rfl,hk,hs0,hs1,hr,x1⟩:=hrel;have HM1:=lh (HM.out.ext x1);have HC1:=lh (HC.out.ext x1);have c3:wr.cell? ⟨g,3,none⟩=some (.slice m.nA m.next.length m.nc):=HM1.out.blk.cell 3;by_cases hlt:k<cs.length
  ·have hkI:(k:Int)<cs.length:=om;by_cases hd:s = -1
   ·subst hd;have hrv:=hr.out;rw[runP_dead] at hrv;subst hrv
    go_wp2_with fail
    go_ret2
    exact⟨rfl,x1⟩
   ·obtain⟨sn,rfl⟩:∃sn:Nat,s=sn:=⟨s.toNat,om⟩;have hsn:sn<m.next.length:=om;obtain⟨nb,no,hnA,cnx,KR⟩:=HM1.out.nx.get hsn;obtain⟨cb,co,hCA,ck⟩:=HC1.out.get hlt;have hcr:=HCR.out _ (List.getElem_mem hlt);have hrow:=OK.out.row _ (List.getElem_mem hsn);have hrng:=OK.out.rng _ (List.getElem_mem hsn);obtain⟨q,hq⟩:∃q:Nat,cs[k]=(q:Int):=⟨cs[k].toNat,om⟩;have hqc:q<m.next[sn].l.length:=by rw[hrow];omega
    obtain⟨rb,ro,hrA,ct⟩:=KR.get hqc;have ht:=hrng _ (List.getElem_mem hqc);have hst:((rowsOf m.next).getD ((sn:Nat):Int).toNat []).getD ((q:Nat):Int).toNat 0=m.next[sn].l[q]:=by
     simp[rowsOf,List.getD_eq_getElem?_getD,hsn,hqc]
    have hr2:=hr.out;rw[List.drop_eq_getElem_cons hlt,runP,if_neg hd,hq,hst] at hr2;rw[hq] at ck;rw[hrA] at cnx;have hqI:(q:Int)<m.next[sn].l.length:=om;have hsI:(sn:Int)<m.next.length:=om;have d3:=c3;rw[hnA] at d3;have hC2:=hCA;subst hC2;clear hst hr hrow hrng KR hcr hq;generalize m.next[sn].l[q]=t at *;generalize m.next[sn].l.length=rl at *;generalize m.next[sn].c=rcp at *;clear c3 hrA;have hwk:IntKind.i64.wrap ((k:Int)+1)=((k+1:Nat):Int):=wj;have hwk3:IntKind.i32.wrap ((k:Int)+1)=((k+1:Nat):Int):=by rw[IntKind.wrap_i32];omega
    have j3:=kc0 d3;have jn:=kc0 cnx;have jk:=kc0 ck;have jt:=kc0 ct;by_cases htd:t = -1
    ·subst htd;have hr3:=lh (show runP (rowsOf m.next) m.done (cs.drop (k+1)) (k+1) (-1) l=res by rw[<-hr2];simp);clear hr2
     go_upto_region 4 with fail
     refine Xr.start [] kr ?_;refine Xtk 0 ?_
     iterate 13(refine Xtn ?_)
     refine Xdn fun w4 hE4 hK4=>?_;have x4:=x1.trans hE4;clear d3 cnx ck ct j3 jn jk jt
     go_wp2_with fail
     go_roundw
     case rel=>exact⟨-1,l,k+1,rfl,rfl,by go_num,om,om,om,hr3,x4⟩
     case measure=>simp[intOf];omega
    ·obtain⟨tn,rfl⟩:∃tn:Nat,t=tn:=⟨t.toNat,om⟩;have htn:tn<m.done.length:=by rw[DL.out];omega
     go_upto_region 4 with fail
     refine Xr.start [] kr ?_;refine Xtk 0 ?_
     iterate 13(refine Xtn ?_)
     refine Xdn fun w4 hE4 hK4=>?_;have x4:=x1.trans hE4;clear d3 cnx ck ct j3 jn jk jt;obtain⟨db,dd,hdA,cd⟩:=(HM.out.ext x4).dn.get htn;have htI:(tn:Int)<m.done.length:=om;have c5:w4.cell? ⟨g,4,none⟩=some (.slice m.dA m.done.length m.dc):=(HM.out.ext x4).blk.cell 4;rw[hdA] at c5;clear hdA;have hgd:m.done.getD ((tn:Nat):Int).toNat false=m.done[tn]:=by simp[List.getD_eq_getElem?_getD,htn]
     rw[hgd] at hr2;clear hgd;generalize m.done[tn]=tdn at *;cases tdn
     ·have hr3:=lh (show runP (rowsOf m.next) m.done (cs.drop (k+1)) (k+1) (tn:Int) l=res by rw[<-hr2];simp);clear hr2
      go_wp2_with fail
      go_roundw
      case rel=>exact⟨tn,l,k+1,rfl,rfl,by go_num,om,om,om,hr3,x4⟩
      case measure=>simp[intOf];omega
     ·have hr3:=lh (show runP (rowsOf m.next) m.done (cs.drop (k+1)) (k+1) (tn:Int) ((k+1:Nat):Int)=res by rw[<-hr2];simp[htd]);clear hr2
      go_wp2_with fail
      go_roundw
      case rel=>exact⟨tn,((k+1:Nat):Int),k+1,rfl,by go_num,by go_num,om,om,om,hr3,x4⟩
      case measure=>simp[intOf];omega
  ·have hkI:¬(k:Int)<cs.length:=om;have hrv:=hr.out;rw[List.drop_eq_nil_of_le om] at hrv;have hrv2:(s,l)=res:=hrv;subst hrv2;clear hrv
   go_wp2_with fail
   go_ret2
   exact⟨rfl,x1⟩
theorem undM:Tryz.prog.underlying 37=some (.pointer 145):=by kernel_rfl
theorem sizeM:(Tryz.prog.info? 145).map (·.size)=some 6:=by kernel_rfl
theorem owns_any (w:World)(gm g:Nat)(s:Sm)(hs:SmAt w g s)(T1 T2:Nat)(C1 C2:Array Value)(hm:Blk w gm T1 C1)(hm2:Blk w s.m T2 C2) :
 Calls Tryz.prog 108 #[.pointer (some ⟨gm,0,none⟩),.pointer (some ⟨g,0,none⟩)] w (RetV (.bool (decide (s.m=gm))) w):=by
 have c0:w.cell? ⟨g,0,none⟩=some (.pointer (some ⟨s.m,0,none⟩)):=hs.blk.cell 0;obtain⟨j,hj,hjs⟩:=Option.map_eq_some_iff.1 sizeM;by_cases h:s.m=gm
 ·subst h;rw[decide_eq_true rfl];go_enter Tryz.func108,Tryz.ntmps108
  go_wp2_with fail
  rw[run_eql_ptr_same w _ undM hj]
  go_wp2_with fail
  go_ret
  exact⟨rfl,Ext.rfl' _⟩
 ·rw[decide_eq_false h];go_enter Tryz.func108,Tryz.ntmps108
  go_wp2_with fail
  rw[run_eql_ptr_other (a:=⟨s.m,0,none⟩) (b:=⟨gm,0,none⟩) w undM hj (by rw[hjs];decide) (fun e=>h (by injection e)) hm2 hm]
  go_wp2_with fail
  go_ret
  exact⟨rfl,Ext.rfl' _⟩
end
end Go.Proofs.YtmpcoifnpflapaaGreat
