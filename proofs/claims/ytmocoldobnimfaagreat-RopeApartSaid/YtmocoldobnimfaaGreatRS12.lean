/- Texts of this proof: K15 G9 Y1 Y2 Z1 J3 J4 J5 TX. -/
import Derived.Test.YtmocoldobnimfaaGreatRS09
import Derived.Test.YtmocoldobnimfaaGreatRS10
set_option linter.all false
set_option maxRecDepth 100000
set_option maxHeartbeats 16000000
namespace Go.Proofs.YtmocoldobnimfaaGreat
section
open Go.RowKit
attribute [local go_sem ↓] Go.wp_at_zero Go.wp_at_succ
def dropI (A:Option Addr)(c k:Nat):Option Addr:=if c=k then A else A.map (fun x=>x.add k)
theorem IL.dropN {w:World}{A:Option Addr}{c k:Nat}{xs:List Int}(h:IL w A c xs)(hk:k<=xs.length):IL w (dropI A c k) (c-k) (xs.drop k):=by
 have h1:=h.le;have h2:=h.cap;refine⟨by rw[List.length_drop];omega,om,fun x hx=>h.rng x (List.mem_of_mem_drop hx),fun hn=>?_⟩;have hlt:k<xs.length:=by
  rcases Nat.lt_or_ge k xs.length with h3|h3
  ·exact h3
  ·exact absurd (List.drop_eq_nil_of_le h3) hn
 obtain⟨b,o,rfl,hc⟩:=h.at_ (by rintro rfl;simp at hlt);unfold dropI;rw[if_neg om];refine⟨b,o+k,by rw[Option.map_some,Addr.add_lit],fun i hi=>?_⟩;rw[List.getElem_drop,Nat.add_assoc];exact hc (k+i) (by rw[List.length_drop] at hi;omega)
theorem infoA2:(Tryz.prog.info? 82).map (fun i=>(i.zero,i.size,i.bytes))=some (some (.agg #[.int .i64 0,.int .i64 0]),2,16):=by kernel_rfl
def fndB (G:List Ins)(R:List St)(op:List Bool)(ts:List Int)(sure:Bool)(i:Nat):Bool:=
 decide (0<=(rrun G (stateG G [0]) (ts.drop i) 0).2)&&(!sure || (decide (plc R (rrun G (stateG G [0]) (ts.drop i) 0).1<0) || !op.getD (plc R (rrun G (stateG G [0]) (ts.drop i) 0).1).toNat false))
def fndUp (G:List Ins)(R:List St)(op:List Bool)(ts:List Int)(sure:Bool):Nat->List Sp
 | 0=>[]
 | i+1=>fndUp G R op ts sure i++(if fndB G R op ts sure i=true then[((i:Int),(i:Int)+(rrun G (stateG G [0]) (ts.drop i) 0).2)] else[])
def foundG (G:List Ins)(R:List St)(op:List Bool)(ts:List Int)(sure:Bool):List Sp:=fndUp G R op ts sure (ts.length+1)
def RetFnd (l:List Sp)(w:World)(e:Ending)(w':World):Prop:=∃(A:Option Addr) (c:Nat),e=.returned (.slice A l.length c)/\SL w' A c l/\Ext w w'
theorem SL.of_ownT {w:World}{base T c:Nat}{A:Option Addr}{l:List Sp}(h:OwnS w base T 2 A l.length c (flatS l))(hr:∀s∈l,S64 s):SL w A c l:=by
 have hc:=OwnS.caps h;refine⟨hc.1,by unfold maxLen;omega,hr,fun hn=>?_⟩;obtain⟨b,o,hA,hcell⟩:=OwnS.cells h (by intro e;have:=flatS_len l;rw[e] at this;simp at this;exact hn (List.length_eq_zero_iff.1 om));have one:∀(i:Nat) (v:Value),(flatS l)[i]? = some v->w.cell? ⟨b,o+i,none⟩=some v:=fun i v hv=>by
  obtain⟨l1,e1⟩:=List.getElem?_eq_some_iff.1 hv;rw[hcell i l1,e1]
 exact⟨b,o,hA,fun i hi=>⟨one _ _ (flatS_get l i hi).1,by rw[Nat.add_assoc];exact one _ _ (flatS_get l i hi).2⟩⟩
end
section
open Go.RowKit
theorem infoBl:(Tryz.prog.info? 4).map (fun i=>(i.zero,i.size,i.bytes))=some (some (.bool false),1,1):=by kernel_rfl
end
section
open Go.RowKit
attribute [local go_sem ↓] Go.wp_at_zero Go.wp_at_succ
def I32 (x:Int):Prop:=-2147483648<=x/\x<=2147483647
structure KL (w:World)(A:Option Addr)(c:Nat)(xs:List Int):Prop where
 le:xs.length<=c
 cap:c<=maxLen
 rng:∀x∈xs,I32 x
 at_:xs≠[]->∃b o,A=some ⟨b,o,none⟩/\∀i (h:i<xs.length),w.cell? ⟨b,o+i,none⟩=some (.int .i32 xs[i])
namespace KL
variable {w w':World} {A:Option Addr} {c:Nat} {xs:List Int}
theorem ext (h:KL w A c xs)(k:Ext w w'):KL w' A c xs:=by
 refine⟨h.le,h.cap,h.rng,fun hn=>?_⟩;obtain⟨b,o,rfl,hc⟩:=h.at_ hn;exact⟨b,o,rfl,fun i hi=>k.cell (hc i hi)⟩
theorem len (h:KL w A c xs):xs.length<=c/\c<=9223372036854775807:=⟨h.le,by have:=h.cap;unfold maxLen at this;omega⟩
theorem get {k:Nat}(h:KL w A c xs)(hk:k<xs.length):∃b o,A=some ⟨b,o,none⟩/\w.cell? ⟨b,o+k,none⟩=some (.int .i32 xs[k]):=by
 obtain⟨b,o,rfl,hc⟩:=h.at_ (by intro h0;subst h0;simp at hk);exact⟨b,o,rfl,hc k hk⟩
end KL
structure Sm where
 m:Nat
 len:Nat
 tA:Option Addr
 tc:Nat
 tg:List Int
 lA:Option Addr
 lc:Nat
 last:List Int
 sA:Option Addr
 sc:Nat
 st:List Int
 eA:Option Addr
 ec:Nat
 en:List Int
def smCells (s:Sm):Array Value:=#[.pointer (some ⟨s.m,0,none⟩),.int .i64 s.len,.slice s.tA s.tg.length s.tc,.slice s.lA s.last.length s.lc,.slice s.sA s.st.length s.sc,.slice s.eA s.en.length s.ec]
structure SmAt (w:World)(g:Nat)(s:Sm):Prop where
 blk:Blk w g 154 (smCells s)
 tg:KL w s.tA s.tc s.tg
 last:KL w s.lA s.lc s.last
 st:KL w s.sA s.sc s.st
 en:KL w s.eA s.ec s.en
 ty:∀A∈[s.tA,s.lA,s.sA,s.eA],∀b,A.map (·.block)=some b->∃cur,w.heap[b]? = some (.cells cur 21 (0,0))
theorem SmAt.ext {w w':World}{g:Nat}{s:Sm}(h:SmAt w g s)(k:Ext w w'):SmAt w' g s:=⟨h.blk.ext k,h.tg.ext k,h.last.ext k,h.st.ext k,h.en.ext k,fun A hA b e=>by
 obtain⟨cur,q⟩:=h.ty A hA b e;exact⟨cur,(k.block b (Array.getElem?_eq_some_iff.1 q).1).trans q⟩⟩
def aftG (n:Nat)(tg last:List Int)(st la:Int):Int×Int:=
 if st = -1 then(-1,la) else(tg.getD st.toNat 0,if last.getD st.toNat 0 = -1 then la else(n:Int)+last.getD st.toNat 0)
theorem after_any (w:World)(ga gb:Nat)(a b:Sm)(ha:SmAt w ga a)(hb:SmAt w gb b)(hlen:a.len<=1000000)(hl:b.last.length=b.tg.length)(hlr:∀x∈b.last,-1<=x/\x<=1000000)(st la:Int)(h0 : -1<=st)(h1:st<b.tg.length) :
 Calls Tryz.prog 132 #[.pointer (some ⟨ga,0,none⟩),.pointer (some ⟨gb,0,none⟩),.int .i32 st,.int .i32 la] w (RetV (.tuple #[.int .i32 (aftG a.len b.tg b.last st la).1,.int .i32 (aftG a.len b.tg b.last st la).2]) w):=by
 by_cases hd:st = -1
 ·subst hd;have HA:=lh (show aftG a.len b.tg b.last (-1) la=(-1,la) by simp[aftG]);rw[HA.out];go_enter Tryz.func132,Tryz.ntmps132
  go_wp2_with fail
  go_ret2
  exact⟨rfl,Ext.rfl' _⟩
 ·obtain⟨k,rfl⟩:∃k:Nat,st=k:=⟨st.toNat,om⟩;have hk:k<b.tg.length:=om;have hk2:k<b.last.length:=om;obtain⟨tb,oo,htA,ct⟩:=hb.tg.get hk;obtain⟨lb,lo,hlA,cl⟩:=hb.last.get hk2;have r1:w.cell? ⟨ga,1,none⟩=some (.int .i64 a.len):=ha.blk.cell 1;have q2:w.cell? ⟨gb,2,none⟩=some (.slice b.tA b.tg.length b.tc):=hb.blk.cell 2;have q3:w.cell? ⟨gb,3,none⟩=some (.slice b.lA b.last.length b.lc):=hb.blk.cell 3;have hrl:=hlr _ (List.getElem_mem hk2);have HA:=lh (show aftG a.len b.tg b.last (k:Int) la=(b.tg[k],if b.last[k] = -1 then la else(a.len:Int)+b.last[k]) by
   unfold aftG;rw[if_neg om];simp[List.getD_eq_getElem?_getD,hk,hk2])
  rw[HA.out];rw[htA] at q2;rw[hlA,hl] at q3;have hw1:IntKind.i32.wrap (a.len:Int)=a.len:=wraps_i32 _ om om;generalize b.last[k]=x at *;generalize b.tg[k]=y at *;clear HA hl htA hlA hlr h0 h1 hk2 ha hb;generalize b.tg.length=n at *;have hkI:(k:Int)<n:=om;by_cases hx:x = -1
  ·subst hx;simp only[if_true];go_enter Tryz.func132,Tryz.ntmps132
   go_wp2_with fail
   go_ret2
   exact⟨rfl,Ext.rfl' _⟩
  ·rw[if_neg hx];have hw2:IntKind.i32.wrap ((a.len:Int)+x)=a.len+x:=wraps_i32 _ om om;go_enter Tryz.func132,Tryz.ntmps132;have j1:=kc0 r1;have j3:=kc0 q3;have jl:=kc0 cl
   go_upto_region 4 with fail
   refine Xr.start [] kr ?_;refine Xtk 0 ?_
   iterate 13(refine Xtn ?_)
   refine Xdn fun w4 hE4 hK4=>?_;have r2':w4.cell? ⟨gb,2,none⟩=some (.slice (some ⟨tb,oo,none⟩) n b.tc):=hE4.cell q2;have ct':=hE4.cell ct;clear j1 j3 jl r1 q2 q3 ct cl
   go_wp2_with fail
   go_ret2
   exact⟨rfl,hE4⟩
structure Kr where
 A:Option Addr
 c:Nat
 l:List Int
structure NXL (w:World)(A:Option Addr)(c:Nat)(hs:List Kr):Prop where
 le:hs.length<=c
 cap:c<=maxLen
 il:∀h∈hs,KL w h.A h.c h.l
 at_:hs≠[]->∃b o,A=some ⟨b,o,none⟩/\∀i (h:i<hs.length),w.cell? ⟨b,o+i,none⟩=some (.slice hs[i].A hs[i].l.length hs[i].c)
namespace NXL
variable {w w':World} {A:Option Addr} {c:Nat} {hs:List Kr}
theorem ext (h:NXL w A c hs)(k:Ext w w'):NXL w' A c hs:=by
 refine⟨h.le,h.cap,fun z hz=>(h.il z hz).ext k,fun hn=>?_⟩;obtain⟨b,o,rfl,hc⟩:=h.at_ hn;exact⟨b,o,rfl,fun i hi=>k.cell (hc i hi)⟩
theorem len (h:NXL w A c hs):hs.length<=c/\c<=9223372036854775807:=⟨h.le,by have:=h.cap;unfold maxLen at this;omega⟩
theorem get {k:Nat}(h:NXL w A c hs)(hk:k<hs.length):∃b o,A=some ⟨b,o,none⟩/\w.cell? ⟨b,o+k,none⟩=some (.slice hs[k].A hs[k].l.length hs[k].c)/\KL w hs[k].A hs[k].c hs[k].l:=by
 obtain⟨b,o,rfl,hc⟩:=h.at_ (by intro h0;subst h0;simp at hk);exact⟨b,o,rfl,hc k hk,h.il _ (List.getElem_mem hk)⟩
end NXL
def rowsOf (hs:List Kr):List (List Int):=hs.map (·.l)
theorem rowsOf_len (hs:List Kr):(rowsOf hs).length=hs.length:=by simp[rowsOf]
structure Ma where
 runes:Bool
 rA:Option Addr
 rn:Nat
 rc:Nat
 first:Int
 nA:Option Addr
 nc:Nat
 next:List Kr
 dA:Option Addr
 dc:Nat
 done:List Bool
 oA:Option Addr
 oc:Nat
 opn:List Bool
def maCells (m:Ma):Array Value:=#[.bool m.runes,.slice m.rA m.rn m.rc,.int .i32 m.first,.slice m.nA m.next.length m.nc,.slice m.dA m.done.length m.dc,.slice m.oA m.opn.length m.oc]
structure MaAt (w:World)(g:Nat)(m:Ma):Prop where
 blk:Blk w g 136 (maCells m)
 nx:NXL w m.nA m.nc m.next
 dn:IB w m.dA m.dc m.done
 op:IB w m.oA m.oc m.opn
theorem MaAt.ext {w w':World}{g:Nat}{m:Ma}(h:MaAt w g m)(k:Ext w w'):MaAt w' g m:=⟨h.blk.ext k,h.nx.ext k,h.dn.ext k,h.op.ext k⟩
structure MaOk (nc:Nat)(m:Ma):Prop where
 row:∀h∈m.next,h.l.length=nc
 rng:∀h∈m.next,∀x∈h.l,-1<=x/\x<m.next.length
 dl:m.done.length=m.next.length
 len:m.next.length<=1000000
 first : -1<=m.first/\m.first<m.next.length
def runP (nx:List (List Int))(dn:List Bool):List Int->Nat->Int->Int->Int×Int
 | [],_,st,la=>(st,la)
 | c::cs,k,st,la=>if st = -1 then(st,la) else
  runP nx dn cs (k+1) ((nx.getD st.toNat []).getD c.toNat 0) (if(nx.getD st.toNat []).getD c.toNat 0≠-1/\dn.getD ((nx.getD st.toNat []).getD c.toNat 0).toNat false=true then((k+1:Nat):Int) else la)
theorem runP_dead (nx:List (List Int))(dn:List Bool)(l:List Int)(k:Nat)(la:Int):runP nx dn l k (-1) la=(-1,la):=by
 cases l<;>simp[runP]
theorem run_any (w:World)(g:Nat)(m:Ma)(nc:Nat)(hm:MaAt w g m)(ok:MaOk nc m)(CA:Option Addr)(cc:Nat)(cs:List Int)(hC:IL w CA cc cs)(hcl:cs.length<=1000000)(hcr:∀x∈cs,0<=x/\x<nc)(st:Int)(h0 : -1<=st)(h1:st<m.next.length)(fr:Nat)(hfr:fr<=cs.length)(la:Int) :
 Calls Tryz.prog 134 #[.pointer (some ⟨g,0,none⟩),.int .i32 st,.slice CA cs.length cc,.int .i64 fr,.int .i32 la] w (RetV (.tuple #[.int .i32 (runP (rowsOf m.next) m.done (cs.drop fr) fr st la).1,.int .i32 (runP (rowsOf m.next) m.done (cs.drop fr) fr st la).2]) w):=by
 have hcc:=hC.len;have hnl:=hm.nx.len;have hdl:=hm.dn.len;have DL:=lh ok.dl;have OK:=lh ok;have hmx:=ok.len;have HM:=lh hm;have HC:=lh hC;have HCR:=lh hcr;obtain⟨res,hres⟩:∃res,Hid (runP (rowsOf m.next) m.done (cs.drop fr) fr st la=res):=⟨_,lh rfl⟩;rw[hres.out];clear ok hm hC hcr;go_enter Tryz.func134,Tryz.ntmps134
 go_upto_region 2 with fail
 go_loopw [1,4,12] (fun v1 v4 v7 wr=>∃(s l:Int) (k:Nat),v1=.int .i32 s/\v4=.int .i32 l/\v7=.int .i64 k/\k<=cs.length/\-1<=s/\s<m.next.length/\Hid (runP (rowsOf m.next) m.done (cs.drop k) k s l=res)/\Ext w wr) (fun _ _ v _=>cs.length-(intOf v).toNat)
 case atStart=>exact⟨st,la,fr,rfl,rfl,rfl,hfr,h0,h1,hres,Ext.rfl' _⟩
 case round=>
  obtain⟨s,l,k,rfl,rfl,rfl,hk,hs0,hs1,hr,x1⟩:=hrel;have HM1:=lh (HM.out.ext x1);have HC1:=lh (HC.out.ext x1);have c3:wr.cell? ⟨g,3,none⟩=some (.slice m.nA m.next.length m.nc):=HM1.out.blk.cell 3;by_cases hlt:k<cs.length
  ·have hkI:(k:Int)<cs.length:=om;by_cases hd:s = -1
   ·subst hd;have hrv:=hr.out;rw[runP_dead] at hrv;subst hrv
    go_wp2_with fail
    go_ret2
    exact⟨rfl,x1⟩
   ·obtain⟨sn,rfl⟩:∃sn:Nat,s=sn:=⟨s.toNat,om⟩;have hsn:sn<m.next.length:=om;obtain⟨nb,no,hnA,cnx,KR⟩:=HM1.out.nx.get hsn;obtain⟨cb,co,hCA,ck⟩:=HC1.out.get hlt;have hcr:=HCR.out _ (List.getElem_mem hlt);have hrow:=OK.out.row _ (List.getElem_mem hsn);have hrng:=OK.out.rng _ (List.getElem_mem hsn);obtain⟨q,hq⟩:∃q:Nat,cs[k]=(q:Int):=⟨cs[k].toNat,om⟩;have hqc:q<m.next[sn].l.length:=by rw[hrow];omega
    obtain⟨rb,ro,hrA,ct⟩:=KR.get hqc;have ht:=hrng _ (List.getElem_mem hqc);have hst:((rowsOf m.next).getD ((sn:Nat):Int).toNat []).getD ((q:Nat):Int).toNat 0=m.next[sn].l[q]:=by
     simp[rowsOf,List.getD_eq_getElem?_getD,hsn,hqc]
    have hr2:=hr.out;rw[List.drop_eq_getElem_cons hlt,runP,if_neg hd,hq,hst] at hr2;rw[hq] at ck;rw[hrA] at cnx;have hqI:(q:Int)<m.next[sn].l.length:=om;have hsI:(sn:Int)<m.next.length:=om;have d3:=c3;rw[hnA] at d3;have hC2:=hCA;subst hC2;clear hst hr hrow hrng KR hcr hq;generalize m.next[sn].l[q]=t at *;generalize m.next[sn].l.length=rl at *;generalize m.next[sn].c=rcp at *;clear c3 hrA;have hwk:IntKind.i64.wrap ((k:Int)+1)=((k+1:Nat):Int):=wj;have hwk3:IntKind.i32.wrap ((k:Int)+1)=((k+1:Nat):Int):=by rw[IntKind.wrap_i32];omega
    have j3:=kc0 d3;have jn:=kc0 cnx;have jk:=kc0 ck;have jt:=kc0 ct;by_cases htd:t = -1
    ·subst htd;have hr3:=lh (show runP (rowsOf m.next) m.done (cs.drop (k+1)) (k+1) (-1) l=res by rw[<-hr2];simp);clear hr2
     go_upto_region 4 with fail
     refine Xr.start [] kr ?_;refine Xtk 0 ?_
     iterate 13(refine Xtn ?_)
     refine Xdn fun w4 hE4 hK4=>?_;have x4:=x1.trans hE4;clear d3 cnx ck ct j3 jn jk jt
     go_wp2_with fail
     go_roundw
     case rel=>exact⟨-1,l,k+1,rfl,rfl,by go_num,om,om,om,hr3,x4⟩
     case measure=>simp[intOf];omega
    ·obtain⟨tn,rfl⟩:∃tn:Nat,t=tn:=⟨t.toNat,om⟩;have htn:tn<m.done.length:=by rw[DL.out];omega
     go_upto_region 4 with fail
     refine Xr.start [] kr ?_;refine Xtk 0 ?_
     iterate 13(refine Xtn ?_)
     refine Xdn fun w4 hE4 hK4=>?_;have x4:=x1.trans hE4;clear d3 cnx ck ct j3 jn jk jt;obtain⟨db,dd,hdA,cd⟩:=(HM.out.ext x4).dn.get htn;have htI:(tn:Int)<m.done.length:=om;have c5:w4.cell? ⟨g,4,none⟩=some (.slice m.dA m.done.length m.dc):=(HM.out.ext x4).blk.cell 4;rw[hdA] at c5;clear hdA;have hgd:m.done.getD ((tn:Nat):Int).toNat false=m.done[tn]:=by simp[List.getD_eq_getElem?_getD,htn]
     rw[hgd] at hr2;clear hgd;generalize m.done[tn]=tdn at *;cases tdn
     ·have hr3:=lh (show runP (rowsOf m.next) m.done (cs.drop (k+1)) (k+1) (tn:Int) l=res by rw[<-hr2];simp);clear hr2
      go_wp2_with fail
      go_roundw
      case rel=>exact⟨tn,l,k+1,rfl,rfl,by go_num,om,om,om,hr3,x4⟩
      case measure=>simp[intOf];omega
     ·have hr3:=lh (show runP (rowsOf m.next) m.done (cs.drop (k+1)) (k+1) (tn:Int) ((k+1:Nat):Int)=res by rw[<-hr2];simp[htd]);clear hr2
      go_wp2_with fail
      go_roundw
      case rel=>exact⟨tn,((k+1:Nat):Int),k+1,rfl,by go_num,by go_num,om,om,om,hr3,x4⟩
      case measure=>simp[intOf];omega
  ·have hkI:¬(k:Int)<cs.length:=om;have hrv:=hr.out;rw[List.drop_eq_nil_of_le om] at hrv;have hrv2:(s,l)=res:=hrv;subst hrv2;clear hrv
   go_wp2_with fail
   go_ret2
   exact⟨rfl,x1⟩
end
section
open Go.RowKit
def ZT (T:Nat):Prop:=T=257\/T=3\/T=65
instance (T:Nat):Decidable (ZT T):=by unfold ZT;infer_instance
def ZK (w w':World):Prop:=∃q:Nat->Prop,KpP q w w'/\∀b,q b->∀cur T,w.heap[b]? = some (.cells cur T (0,0))->ZT T
namespace ZK
variable {a b c w w':World}
theorem of_ext (x:Ext w w'):ZK w w':=⟨fun _=>False,KpP.of_ext x,fun _ h=>h.elim⟩
theorem blk {g T:Nat}{ds:Array Value}(k:ZK w w')(h:Blk w g T ds)(hT:¬ZT T):Blk w' g T ds:=by
 obtain⟨q,k,n⟩:=k;exact(k.block g h.lt (fun hq=>hT (n g hq _ _ h))).trans h
end ZK
def ptrO (p:Option Nat):Value:=.pointer (p.map (fun g=>⟨g,0,none⟩))
def goalC (kind:Int)(n:Nd)(k fr:Int)(p:Option Nat):Array Value:=
 #[.int .i64 kind,.int .i64 n.op,.slice n.A n.l.length n.c,.slice n.K n.ks.length n.kc,.int .i64 n.mn,.int .i64 n.mx,.int .i64 n.md,.int .i64 n.n,.bool n.neg,.int .i64 k,.int .i64 fr,ptrO p]
inductive GoalAt (bd:Nat) (w0 w:World) (kb:Int):Nat->Option Nat->Prop
 | nil:GoalAt bd w0 w kb 0 none
 | mk {n:Nat} {p:Option Nat} (g:Nat) (kind k fr:Int) (nd:Nd) (d:Nat):Blk w g 261 (goalC kind nd k fr p)->TreeAt bd (fun _=>True) w0 d nd.val->
  (kind=0\/(kind=1/\nd.op=4/\0<=k/\k<=kb)\/(kind=2/\nd.op=4/\0<=k/\k+1<=kb)\/kind=3)->I64 fr->GoalAt bd w0 w kb n p->GoalAt bd w0 w kb (n+1) (some g)
namespace GoalAt
variable {bd n:Nat} {w0 w w':World} {kb kb':Int} {p:Option Nat}
theorem mono (h:GoalAt bd w0 w kb n p)(hk:kb<=kb'):GoalAt bd w0 w kb' n p:=by
 induction h with
 | nil=>exact .nil
 | mk g kind k fr nd d h1 h2 h3 h4 _ ih=>exact .mk g kind k fr nd d h1 h2 om h4 ih
theorem zk (h:GoalAt bd w0 w kb n p)(k:ZK w w'):GoalAt bd w0 w' kb n p:=by
 induction h with
 | nil=>exact .nil
 | mk g kind k2 fr nd d h1 h2 h3 h4 _ ih=>exact .mk g kind k2 fr nd d (k.blk h1 de) h2 h3 h4 ih
theorem ext (h:GoalAt bd w0 w kb n p)(x:Ext w w'):GoalAt bd w0 w' kb n p:=h.zk (ZK.of_ext x)
end GoalAt
def CapAt (w:World)(A:Option Addr)(c:Nat)(l:List Sp):Prop:=SL w A c l/\∀b,A.map (·.block)=some b->∃cur,w.heap[b]? = some (.cells cur 82 (0,0))
theorem CapAt.zk {w w':World}{A:Option Addr}{c:Nat}{l:List Sp}(h:CapAt w A c l)(k:ZK w w'):CapAt w' A c l:=by
 obtain⟨q,k,n⟩:=k;have hn:∀b,A.map (·.block)=some b->¬q b:=fun b hb hq=>by
  obtain⟨cur,hh⟩:=h.2 b hb;exact absurd (n b hq cur _ hh) de
 refine⟨h.1.kpZ k (fun _ b hb=>hn b hb),fun b hb=>?_⟩;obtain⟨cur,hh⟩:=h.2 b hb;exact⟨cur,(k.block b (Array.getElem?_eq_some_iff.1 hh).1 (hn b hb)).trans hh⟩
theorem CapAt.ext {w w':World}{A:Option Addr}{c:Nat}{l:List Sp}(h:CapAt w A c l)(x:Ext w w'):CapAt w' A c l:=h.zk (ZK.of_ext x)
structure SrM (w:World)(base gs:Nat)(tA:Option Addr)(tn tc:Nat)(most fuel:Int)(st:Nat)(em:Bool)(ns:Nat):Prop where
 blk:∃(eA:Option Addr) (ec:Nat) (ends:List Int) (cA:Option Addr) (cc:Nat) (cps:List Value),
  Blk w gs 257 #[.slice tA tn tc,.int .i64 most,.int .i64 fuel,.int .i64 st,.bool em,.slice eA ends.length ec,.slice cA cps.length cc]/\
  OwnI w base 3 eA ec ends/\OwnS w base 65 1 cA cps.length cc cps/\ends.length=ns/\cps.length=ns/\(∀x∈ends,I64 x)/\∀v∈cps,∃A n c,v=.slice A n c
 lo:base<=gs
theorem SrM.ext {w w':World}{base gs tn tc st ns:Nat}{tA:Option Addr}{most fuel:Int}{em:Bool}(h:SrM w base gs tA tn tc most fuel st em ns)(x:Ext w w'):SrM w' base gs tA tn tc most fuel st em ns:=by
 obtain⟨⟨eA,ec,ends,cA,cc,cps,h1,h2,h3,h4⟩,h5⟩:=h;exact⟨⟨eA,ec,ends,cA,cc,cps,h1.ext x,OwnS.ext h2 x,OwnS.ext h3 x,h4⟩,h5⟩
theorem SL.of_blkZ {w:World}{g T:Nat}(l:List Sp)(h:Blk w g T (flatS l).toArray)(hs:∀s∈l,-1000000<=s.1/\s.1<=1000000/\-1000000<=s.2/\s.2<=1000000)(hl:l.length<=1000):SL w (some ⟨g,0,none⟩) l.length l:=by
 refine⟨Nat.le_refl _,by unfold maxLen;omega,fun s hs2=>by have:=hs s hs2;unfold S64 I64;omega,fun _=>⟨g,0,rfl,fun i hi=>?_⟩⟩;obtain⟨h1,h2⟩:=flatS_get l i hi;rw[h.cell,h.cell];refine⟨?_,?_⟩
 ·rw[Nat.zero_add];simpa using h1
 ·rw[Nat.zero_add];simpa using h2
instance (l:List Sp):Decidable (SetOk l):=by unfold SetOk;infer_instance
def setsY (gr:Nat):Array Value:=#[.slice (some ⟨gr+1,0,none⟩) 1 1,.slice (some ⟨gr+1+1,0,none⟩) 1 1,.slice (some ⟨gr+1+1+1,0,none⟩) 1 1,.slice (some ⟨gr+1+1+1+1,0,none⟩) 1 1,.slice (some ⟨gr+1+1+1+1+1,0,none⟩) 1 1,.slice (some ⟨gr+1+1+1+1+1+1,0,none⟩) 2 2,.slice (some ⟨gr+1+1+1+1+1+1+1,0,none⟩) 2 2,.slice (some ⟨gr+1+1+1+1+1+1+1+1,0,none⟩) 0 0]
def RetNd (bd d:Nat)(w0:World)(gm:Nat)(A:Option Addr)(c:Nat)(ls:List Int)(uses B:Int)(w:World)(e:Ending)(w':World):Prop:=
 ∃v:Value,e=.returned v/\TreeAt bd (fun k=>w.heap.size<=k) w' d v/\MkM w' w0 gm A c ls uses B/\KpP (·=gm) w w'
theorem yset_any (w0 w:World)(gm:Nat)(A:Option Addr)(c:Nat)(ls:List Int)(uses B:Int)(h:MkM w w0 gm A c ls uses B)(hB:B<=100000000) :
 Calls Tryz.prog 185 #[.pointer (some ⟨gm,0,none⟩)] w (RetNd 3 1 w0 gm A c ls uses (B+1) w):=by
 have hgm:gm<w.heap.size:=by
  obtain⟨_,_,_,_,_,_,hb,_⟩:=h;exact hb.lt
 have H:=lh h;obtain⟨gr,hgr⟩:∃gr,w.heap.size=gr:=⟨_,rfl⟩;clear h;go_enter Tryz.func185,Tryz.ntmps185
 go_upto_region 2 with fail
 have E0:=Ext.alloc w (.cells #[.int .i64 0,.slice none 0 0,.slice none 0 0,.int .i64 0,.int .i64 0,.int .i64 0,.int .i64 0,.bool false] 26);have B0:=Blk.new w 26 #[.int .i64 0,.slice none 0 0,.slice none 0 0,.int .i64 0,.int .i64 0,.int .i64 0,.int .i64 0,.bool false];have S0:(w.alloc (.cells #[.int .i64 0,.slice none 0 0,.slice none 0 0,.int .i64 0,.int .i64 0,.int .i64 0,.int .i64 0,.bool false] 26)).heap.size=gr+1:=by rw[World.size_alloc,hgr]
 rw[hgr] at B0;generalize w.alloc (.cells #[.int .i64 0,.slice none 0 0,.slice none 0 0,.int .i64 0,.int .i64 0,.int .i64 0,.int .i64 0,.bool false] 26)=v0 at *;have E1:=Ext.alloc v0 (.cells #[.int .i64 97,.int .i64 97] 38);have B1:=Blk.new v0 38 #[.int .i64 97,.int .i64 97];have S1:(v0.alloc (.cells #[.int .i64 97,.int .i64 97] 38)).heap.size=gr+1+1:=by rw[World.size_alloc,S0]
 rw[S0] at B1;generalize v0.alloc (.cells #[.int .i64 97,.int .i64 97] 38)=v1 at *;have E2:=Ext.alloc v1 (.cells #[.int .i64 98,.int .i64 98] 38);have B2:=Blk.new v1 38 #[.int .i64 98,.int .i64 98];have S2:(v1.alloc (.cells #[.int .i64 98,.int .i64 98] 38)).heap.size=gr+1+1+1:=by rw[World.size_alloc,S1]
 rw[S1] at B2;generalize v1.alloc (.cells #[.int .i64 98,.int .i64 98] 38)=v2 at *;have E3:=Ext.alloc v2 (.cells #[.int .i64 97,.int .i64 98] 38);have B3:=Blk.new v2 38 #[.int .i64 97,.int .i64 98];have S3:(v2.alloc (.cells #[.int .i64 97,.int .i64 98] 38)).heap.size=gr+1+1+1+1:=by rw[World.size_alloc,S2]
 rw[S2] at B3;generalize v2.alloc (.cells #[.int .i64 97,.int .i64 98] 38)=v3 at *;have E4:=Ext.alloc v3 (.cells #[.int .i64 99,.int .i64 99] 38);have B4:=Blk.new v3 38 #[.int .i64 99,.int .i64 99];have S4:(v3.alloc (.cells #[.int .i64 99,.int .i64 99] 38)).heap.size=gr+1+1+1+1+1:=by rw[World.size_alloc,S3]
 rw[S3] at B4;generalize v3.alloc (.cells #[.int .i64 99,.int .i64 99] 38)=v4 at *;have E5:=Ext.alloc v4 (.cells #[.int .i64 97,.int .i64 99] 38);have B5:=Blk.new v4 38 #[.int .i64 97,.int .i64 99];have S5:(v4.alloc (.cells #[.int .i64 97,.int .i64 99] 38)).heap.size=gr+1+1+1+1+1+1:=by rw[World.size_alloc,S4]
 rw[S4] at B5;generalize v4.alloc (.cells #[.int .i64 97,.int .i64 99] 38)=v5 at *;have E6:=Ext.alloc v5 (.cells #[.int .i64 0,.int .i64 96,.int .i64 98,.int .i64 255] 38);have B6:=Blk.new v5 38 #[.int .i64 0,.int .i64 96,.int .i64 98,.int .i64 255];have S6:(v5.alloc (.cells #[.int .i64 0,.int .i64 96,.int .i64 98,.int .i64 255] 38)).heap.size=gr+1+1+1+1+1+1+1:=by rw[World.size_alloc,S5]
 rw[S5] at B6;generalize v5.alloc (.cells #[.int .i64 0,.int .i64 96,.int .i64 98,.int .i64 255] 38)=v6 at *;have E7:=Ext.alloc v6 (.cells #[.int .i64 10,.int .i64 10,.int .i64 97,.int .i64 97] 38);have B7:=Blk.new v6 38 #[.int .i64 10,.int .i64 10,.int .i64 97,.int .i64 97];have S7:(v6.alloc (.cells #[.int .i64 10,.int .i64 10,.int .i64 97,.int .i64 97] 38)).heap.size=gr+1+1+1+1+1+1+1+1:=by rw[World.size_alloc,S6]
 rw[S6] at B7;generalize v6.alloc (.cells #[.int .i64 10,.int .i64 10,.int .i64 97,.int .i64 97] 38)=v7 at *;have E8:=Ext.alloc v7 (.cells #[] 38);have B8:=Blk.new v7 38 #[];have S8:(v7.alloc (.cells #[] 38)).heap.size=gr+1+1+1+1+1+1+1+1+1:=by rw[World.size_alloc,S7]
 rw[S7] at B8;generalize v7.alloc (.cells #[] 38)=v8 at *;have E9:=Ext.alloc v8 (.cells #[.slice (some ⟨gr+1,0,none⟩) 1 1,.slice (some ⟨gr+1+1,0,none⟩) 1 1,.slice (some ⟨gr+1+1+1,0,none⟩) 1 1,.slice (some ⟨gr+1+1+1+1,0,none⟩) 1 1,.slice (some ⟨gr+1+1+1+1+1,0,none⟩) 1 1,.slice (some ⟨gr+1+1+1+1+1+1,0,none⟩) 2 2,.slice (some ⟨gr+1+1+1+1+1+1+1,0,none⟩) 2 2,.slice (some ⟨gr+1+1+1+1+1+1+1+1,0,none⟩) 0 0] 23);have B9:=Blk.new v8 23 #[.slice (some ⟨gr+1,0,none⟩) 1 1,.slice (some ⟨gr+1+1,0,none⟩) 1 1,.slice (some ⟨gr+1+1+1,0,none⟩) 1 1,.slice (some ⟨gr+1+1+1+1,0,none⟩) 1 1,.slice (some ⟨gr+1+1+1+1+1,0,none⟩) 1 1,.slice (some ⟨gr+1+1+1+1+1+1,0,none⟩) 2 2,.slice (some ⟨gr+1+1+1+1+1+1+1,0,none⟩) 2 2,.slice (some ⟨gr+1+1+1+1+1+1+1+1,0,none⟩) 0 0];have S9:(v8.alloc (.cells #[.slice (some ⟨gr+1,0,none⟩) 1 1,.slice (some ⟨gr+1+1,0,none⟩) 1 1,.slice (some ⟨gr+1+1+1,0,none⟩) 1 1,.slice (some ⟨gr+1+1+1+1,0,none⟩) 1 1,.slice (some ⟨gr+1+1+1+1+1,0,none⟩) 1 1,.slice (some ⟨gr+1+1+1+1+1+1,0,none⟩) 2 2,.slice (some ⟨gr+1+1+1+1+1+1+1,0,none⟩) 2 2,.slice (some ⟨gr+1+1+1+1+1+1+1+1,0,none⟩) 0 0] 23)).heap.size=gr+1+1+1+1+1+1+1+1+1+1:=by rw[World.size_alloc,S8]
 rw[S8] at B9;generalize v8.alloc (.cells #[.slice (some ⟨gr+1,0,none⟩) 1 1,.slice (some ⟨gr+1+1,0,none⟩) 1 1,.slice (some ⟨gr+1+1+1,0,none⟩) 1 1,.slice (some ⟨gr+1+1+1+1,0,none⟩) 1 1,.slice (some ⟨gr+1+1+1+1+1,0,none⟩) 1 1,.slice (some ⟨gr+1+1+1+1+1+1,0,none⟩) 2 2,.slice (some ⟨gr+1+1+1+1+1+1+1,0,none⟩) 2 2,.slice (some ⟨gr+1+1+1+1+1+1+1+1,0,none⟩) 0 0] 23)=v9 at *;replace B0:=(((((((((B0).ext E1).ext E2).ext E3).ext E4).ext E5).ext E6).ext E7).ext E8).ext E9;replace B1:=((((((((B1).ext E2).ext E3).ext E4).ext E5).ext E6).ext E7).ext E8).ext E9;replace B2:=(((((((B2).ext E3).ext E4).ext E5).ext E6).ext E7).ext E8).ext E9;replace B3:=((((((B3).ext E4).ext E5).ext E6).ext E7).ext E8).ext E9;replace B4:=(((((B4).ext E5).ext E6).ext E7).ext E8).ext E9;replace B5:=((((B5).ext E6).ext E7).ext E8).ext E9;replace B6:=(((B6).ext E7).ext E8).ext E9;replace B7:=((B7).ext E8).ext E9;replace B8:=(B8).ext E9;replace B9:=B9;have EX:Ext w v9:=(((((((((E0).trans E1).trans E2).trans E3).trans E4).trans E5).trans E6).trans E7).trans E8).trans E9;have HSL:∀k:Nat,k<8->∃(A:Option Addr) (c:Nat) (l:List Sp),(setsY gr)[k]? = some (.slice A l.length c)/\SL v9 A c l/\SetOk l/\∀b,A.map (·.block)=some b->gr+1<=b:=by
  intro k hk;have hk2:k=0\/k=1\/k=2\/k=3\/k=4\/k=5\/k=6\/k=7:=om;rcases hk2 with rfl|rfl|rfl|rfl|rfl|rfl|rfl|rfl
  ·exact⟨some ⟨gr+1,0,none⟩,1,[(97,97)],rfl,SL.of_blkZ [(97,97)] B1 de de,by decide,fun b hb=>by simp at hb;omega⟩
  ·exact⟨some ⟨gr+1+1,0,none⟩,1,[(98,98)],rfl,SL.of_blkZ [(98,98)] B2 de de,by decide,fun b hb=>by simp at hb;omega⟩
  ·exact⟨some ⟨gr+1+1+1,0,none⟩,1,[(97,98)],rfl,SL.of_blkZ [(97,98)] B3 de de,by decide,fun b hb=>by simp at hb;omega⟩
  ·exact⟨some ⟨gr+1+1+1+1,0,none⟩,1,[(99,99)],rfl,SL.of_blkZ [(99,99)] B4 de de,by decide,fun b hb=>by simp at hb;omega⟩
  ·exact⟨some ⟨gr+1+1+1+1+1,0,none⟩,1,[(97,99)],rfl,SL.of_blkZ [(97,99)] B5 de de,by decide,fun b hb=>by simp at hb;omega⟩
  ·exact⟨some ⟨gr+1+1+1+1+1+1,0,none⟩,2,[(0,96),(98,255)],rfl,SL.of_blkZ [(0,96),(98,255)] B6 de de,by decide,fun b hb=>by simp at hb;omega⟩
  ·exact⟨some ⟨gr+1+1+1+1+1+1+1,0,none⟩,2,[(10,10),(97,97)],rfl,SL.of_blkZ [(10,10),(97,97)] B7 de de,by decide,fun b hb=>by simp at hb;omega⟩
  ·exact⟨some ⟨gr+1+1+1+1+1+1+1+1,0,none⟩,0,[],rfl,SL.of_blkZ [] B8 de de,by decide,fun b hb=>by simp at hb;omega⟩
 have HM9:=lh (H.out.extW EX);have HB9:Hid (Blk v9 (gr+1+1+1+1+1+1+1+1+1) 23 (setsY gr)):=lh B9;have HB0:=lh B0;have HSL9:=lh HSL;clear B0 B1 B2 B3 B4 B5 B6 B7 B8 B9 E0 E1 E2 E3 E4 E5 E6 E7 E8 E9 S0 S1 S2 S3 S4 S5 S6 S7 S8 S9 HSL
 go_wp2_with (go_at_call 184;refine(ynext_any w0 v9 gm A c ls uses B 15 HM9.out hB om om).mono ?_;rintro e w10 ⟨x,rfl,hx0,hx1,M10,K10⟩;have hbk:=K10.blk HB9.out om;obtain⟨A5,c5,l5,e5,s5,o5,g5⟩:=HSL9.out (x / 2).toNat om;have cc:w10.cell? ⟨gr+1+1+1+1+1+1+1+1+1,(x / 2).toNat,none⟩=some (.slice A5 l5.length c5):=(hbk.cell _).trans e5;have b0:=K10.blk HB0.out om;obtain⟨f0,f1,f2,f3,f4,f5,f6,f7⟩:=nd_frz b0;have HB10:=lh b0;have z0:=b0.cell 0;have z1:=b0.cell 1;have z2:=b0.cell 2;have z3:=b0.cell 3;have z4:=b0.cell 4;have z5:=b0.cell 5;have z6:=b0.cell 6;have z7:=b0.cell 7;clear b0 hbk)
 have hb2:=setRe_blk HB10.out ⟨1,A5,c5,l5,none,0,[],0,0,0,0,false⟩;have hgw:w.heap.size<=gr:=om;have hk2:=setRe_kp (p:=(·=gm)) ((KpP.of_ext EX).trans K10) (g:=gr) (.inr hgw) ⟨1,A5,c5,l5,none,0,[],0,0,0,0,false⟩;have K11:=setRe_kp (p:=(·=gr)) (KpP.refl _ w10) (g:=gr) (.inl rfl) ⟨1,A5,c5,l5,none,0,[],0,0,0,0,false⟩;change bodyPost _ _ _ _ _ (setRe w10 gr ⟨1,A5,c5,l5,none,0,[],0,0,0,0,false⟩);generalize setRe w10 gr ⟨1,A5,c5,l5,none,0,[],0,0,0,0,false⟩=w11 at *;obtain⟨r0,r1,r2,r3,r4,r5,r6,r7⟩:=nd_cells hb2;simp only[List.length_nil] at r2;have M11:=M10.kpR K11 om (by have:=H.out.ext.size;omega);refine bodyPost_ret (v:=Nd.val ⟨1,A5,c5,l5,none,0,[],0,0,0,0,false⟩) (by simp[results,Tryz.results185,go_sem,r0,r1,r2,r3,r4,r5,r6,r7,Nd.val]) rfl ⟨_,rfl,?_,M11,hk2⟩;rw[hgr];refine .mk _ ⟨.inr (.inl rfl),by simp,by simp,by simp,by simp,by simp,by simp,by simp,by simp,o5⟩ ?_ si si (fun h=>by simp at h) si (fun _ b hb=>by have:=g5 b hb;omega) si;exact(s5.kpZ K10 (fun _ b hb e=>by have:=g5 b hb;omega)).kpZ K11 (fun _ b hb e=>by have:=g5 b hb;omega)
def RetB (w:World)(e:Ending)(w':World):Prop:=∃b:Bool,e=.returned (.bool b)/\Ext w w'
theorem kid8 {bd:Nat}{S:Nat->Prop}{w:World}{d:Nat}{K:Option Addr}{ks:List Value}(hc:CellsAt w K (ks.flatMap cellsOf))(ht:∀u∈ks,TreeAt bd S w d u){i:Nat}(hi:i<ks.length) :
 ∃b o,K=some ⟨b,o,none⟩/\∃n:Nd,TreeAt bd S w d n.val/\w.cell? ⟨b,o+i*8,none⟩=some (.int .i64 n.op)/\w.cell? ⟨b,o+i*8+1,none⟩=some (.slice n.A n.l.length n.c)/\w.cell? ⟨b,o+i*8+2,none⟩=some (.slice n.K n.ks.length n.kc)/\
  w.cell? ⟨b,o+i*8+3,none⟩=some (.int .i64 n.mn)/\w.cell? ⟨b,o+i*8+4,none⟩=some (.int .i64 n.mx)/\w.cell? ⟨b,o+i*8+5,none⟩=some (.int .i64 n.md)/\w.cell? ⟨b,o+i*8+6,none⟩=some (.int .i64 n.n)/\w.cell? ⟨b,o+i*8+7,none⟩=some (.bool n.neg):=by
 obtain⟨b,o,hK,n,hn,hcl⟩:=kid_cells hc ht hi;exact⟨b,o,hK,n,hn▸ht _ (List.getElem_mem hi),hcl 0 om,hcl 1 om,hcl 2 om,hcl 3 om,hcl 4 om,hcl 5 om,hcl 6 om,hcl 7 om⟩
theorem J4z1 {P:Prop} (h:P:=by
 go_wp2_with (go_at_call 107;refine(HCALL _ (by first|exact Ext.rfl' _|exact Ext.drewN _ _)).out.mono ?_;rintro e w3 ⟨b3,rfl,x3⟩)
 go_ret
 exact⟨_,rfl,E0.trans x3⟩):P:=h
theorem ynullable_any (bd:Nat)(S:Nat->Prop):∀(d:Nat) (w:World) (v:Value),TreeAt bd S w d v->Calls Tryz.prog 107 #[v] w (RetB w):=by
 intro d;induction d with
 | zero=>intro w v h;obtain⟨e,he⟩:=h.pos;omega
 | succ d ih=>
  intro w v h;obtain⟨n,rfl,hok,hsl,hkl,hkc,hcl,hks⟩:=h.node;obtain⟨op,A,c,l,K,kc,ks,mn,mx,md,nn,neg⟩:=n;have hop:=hok.op
  simp only at hop hsl hkl hkc hcl hks
  unfold Nd.val
  simp only
  have HIH:=lh ih;have HOK:=lh hok;clear ih h hok;have B0:=Blk.new w 26 #[.int .i64 op,.slice A l.length c,.slice K ks.length kc,.int .i64 mn,.int .i64 mx,.int .i64 md,.int .i64 nn,.bool neg];have E0:=Ext.alloc w (.cells #[.int .i64 op,.slice A l.length c,.slice K ks.length kc,.int .i64 mn,.int .i64 mx,.int .i64 md,.int .i64 nn,.bool neg] 26);have HC:=lh (hcl.ext E0);have HK:=lh (fun u hu=>(hks u hu).ext E0);have HKL:ks.length<=kc/\kc<=9223372036854775807:=⟨hkl,by unfold maxLen at hkc;omega⟩;clear hcl hks hsl hkl hkc;go_enter Tryz.func107,Tryz.ntmps107
  go_upto_region 1 with fail
  obtain⟨gx,hgx⟩:∃gx,gx=w.heap.size:=⟨_,rfl⟩
  rw[<-hgx] at B0 ⊢;clear hgx;generalize w.alloc (.cells #[.int .i64 op,.slice A l.length c,.slice K ks.length kc,.int .i64 mn,.int .i64 mx,.int .i64 md,.int .i64 nn,.bool neg] 26)=wa at *;have z0:wa.cell? ⟨gx,0,none⟩=some (.int .i64 op):=B0.cell 0;have z2:wa.cell? ⟨gx,2,none⟩=some (.slice K ks.length kc):=B0.cell 2;have z3:wa.cell? ⟨gx,3,none⟩=some (.int .i64 mn):=B0.cell 3;by_cases h1:op=1
  ·subst h1
   go_wp2_with fail
   go_ret
   exact⟨_,rfl,E0⟩
  ·by_cases h2:op=2
   ·subst h2
    go_upto_region 6 with fail
    go_loopw [3] (fun v wr=>∃i:Nat,v=.int .i64 i/\i<=ks.length/\Ext wa wr) (fun v _=>ks.length-(intOf v).toNat)
    case atStart=>exact⟨0,rfl,om,Ext.rfl' _⟩
    case round=>
     obtain⟨i,rfl,hi,x1⟩:=hrel;have z2r:=x1.cell z2;by_cases hlt:i<ks.length
     ·have hiI:(i:Int)<ks.length:=om;obtain⟨b,o,hK,n,ht,k0,k1,k2,k3,k4,k5,k6,k7⟩:=kid8 (HC.out.ext x1) (fun u hu=>(HK.out u hu).ext x1) hlt;have hK':=hK;subst hK';have HT:=lh ht;clear ht
      go_wp2_with (go_at_call 107;refine(HIH.out wr _ HT.out).mono ?_;rintro e w3 ⟨b3,rfl,x3⟩;cases b3)
      ·go_ret
       exact⟨_,rfl,E0.trans (x1.trans x3)⟩
      ·go_roundw
       case rel=>exact⟨i+1,by go_num,om,x1.trans x3⟩
       case measure=>simp[intOf];omega
     ·have hiI:¬(i:Int)<ks.length:=om
      go_wp2_with fail
      go_ret
      exact⟨_,rfl,E0.trans x1⟩
   ·by_cases h3:op=3
    ·subst h3
     go_upto_region 14 with fail
     go_loopw [4] (fun v wr=>∃i:Nat,v=.int .i64 i/\i<=ks.length/\Ext wa wr) (fun v _=>ks.length-(intOf v).toNat)
     case atStart=>exact⟨0,rfl,om,Ext.rfl' _⟩
     case round=>
      obtain⟨i,rfl,hi,x1⟩:=hrel;have z2r:=x1.cell z2;by_cases hlt:i<ks.length
      ·have hiI:(i:Int)<ks.length:=om;obtain⟨b,o,hK,n,ht,k0,k1,k2,k3,k4,k5,k6,k7⟩:=kid8 (HC.out.ext x1) (fun u hu=>(HK.out u hu).ext x1) hlt;have hK':=hK;subst hK';have HT:=lh ht;clear ht
       go_wp2_with (go_at_call 107;refine(HIH.out wr _ HT.out).mono ?_;rintro e w3 ⟨b3,rfl,x3⟩;cases b3)
       ·go_roundw
        case rel=>exact⟨i+1,by go_num,om,x1.trans x3⟩
        case measure=>simp[intOf];omega
       ·go_ret
        exact⟨_,rfl,E0.trans (x1.trans x3)⟩
      ·have hiI:¬(i:Int)<ks.length:=om
       go_wp2_with fail
       go_ret
       exact⟨_,rfl,E0.trans x1⟩
    ·by_cases h45:op=4\/op=5
     ·have hk1:=HOK.out.one h45
      simp only at hk1
      have hk0:0<ks.length:=om;have hkI:(0:Int)<ks.length:=om;obtain⟨b,o,hK,n,ht,k0,k1,k2,k3,k4,k5,k6,k7⟩:=kid8 HC.out HK.out hk0;have hK':=hK;subst hK';simp only[Nat.zero_mul,Nat.add_zero] at k0 k1 k2 k3 k4 k5 k6 k7;have HT:=lh ht;have HCALL:=fun(w':World) (x:Ext wa w')=>lh (HIH.out w' _ (HT.out.ext x));clear ht;rcases h45 with h4|h5
      ·subst h4;by_cases hm:mn<=0
       ·have hm2:decide (mn<=0)=true:=by simp[hm]
        go_wp2_with fail
        go_ret
        exact⟨_,rfl,E0⟩
       ·have hm2:decide (mn<=0)=false:=by simp[hm]
        exact J4z1
      ·subst h5;exact J4z1
     ·have h06:op=0\/op=11:=om;rcases h06 with rfl|rfl
      ·go_wp2_with fail
       go_ret
       exact⟨_,rfl,E0⟩
      ·go_wp2_with fail
       go_ret
       exact⟨_,rfl,E0⟩
end
section
open Go.RowKit
attribute [local go_sem ↓] Go.wp_at_zero Go.wp_at_succ
def numT:Nat->Int
 | 0=>5
 | d+1=>3*numT d+10
theorem numT_pos:∀d,5<=numT d
 | 0=>by simp[numT]
 | d+1=>by have:=numT_pos d;simp only[numT];omega
def reZ:Value:=.agg #[.int .i64 0,.slice none 0 0,.slice none 0 0,.int .i64 0,.int .i64 0,.int .i64 0,.int .i64 0,.bool false]
def UsesOk (uses:Int):Prop:=Go.bits BinOp.and IntKind.i64 uses 1=0/\Go.bits BinOp.and IntKind.i64 uses 2=0/\Go.bits BinOp.and IntKind.i64 uses 4=0/\Go.bits BinOp.and IntKind.i64 uses 8=0/\Go.bits BinOp.and IntKind.i64 uses 32=0
theorem infoRe:(Tryz.prog.info? 26).map (fun i=>(i.zero,i.size,i.bytes))=some (some reZ,8,96):=by kernel_rfl
theorem Nd.one (n:Nd):∀u∈n.cs,u.oneCell'=true:=by
 intro u hu;simp only[Nd.cs,List.mem_cons,List.not_mem_nil,or_false] at hu;rcases hu with rfl|rfl|rfl|rfl|rfl|rfl|rfl|rfl<;>rfl
def RetKids (d:Nat)(w0:World)(gm:Nat)(A:Option Addr)(c:Nat)(ls:List Int)(uses B:Int)(w:World)(e:Ending)(w':World):Prop:=
 ∃(K:Option Addr) (kc:Nat) (ks:List Value),e=.returned (.slice K ks.length kc)/\2<=ks.length/\ks.length<=3/\ks.length<=kc/\kc<=maxLen/\CellsAt w' K (ks.flatMap cellsOf)/\(∀u∈ks,TreeAt 3 (fun k=>w.heap.size<=k) w' d u)/\
  (∀k,K.map (·.block)=some k->w.heap.size<=k)/\MkM w' w0 gm A c ls uses B/\KpP (·=gm) w w'
structure KdI (wr w:World)(d gm:Nat)(K:Option Addr)(kc:Nat)(ks:List Value):Prop where
 own:OwnS wr w.heap.size 26 8 K ks.length kc (ks.flatMap cellsOf)
 tr:∀u∈ks,TreeAt 3 (fun k=>w.heap.size<=k/\K.map (·.block)≠some k) wr d u
 kp:KpP (·=gm) w wr
 gm:gm<w.heap.size
theorem MkM.kpq {w w' w0:World}{gm:Nat}{A:Option Addr}{c:Nat}{ls:List Int}{uses B:Int}{q:Nat->Prop}(h:MkM w w0 gm A c ls uses B)(k:KpP q w w')(hq:∀i,q i->i≠gm/\w0.heap.size<=i):MkM w' w0 gm A c ls uses B:=by
 obtain⟨h1,h2,h3,at_,left,caps,h4,h5⟩:=h;exact⟨h1.kp k (fun i hi=>(hq i hi).2),h2,h3,at_,left,caps,k.blk h4 (fun hi=>(hq gm hi).1 rfl),h5⟩
theorem KdI.start (w:World)(d gm:Nat)(h:gm<w.heap.size):KdI w w d gm none 0 []:=⟨OwnS.nil _ _ _ _,by simp,KpP.refl _ _,h⟩
theorem KdI.gmk {wr wr' w:World}{d gm:Nat}{K:Option Addr}{kc:Nat}{ks:List Value}(h:KdI wr w d gm K kc ks)(k:KpP (·=gm) wr wr'):KdI wr' w d gm K kc ks:=by
 have hg:=h.gm;refine⟨OwnS.kp h.own k (fun b hb e=>?_),fun u hu=>(h.tr u hu).kp k (fun i hi hs=>?_),h.kp.trans k,h.gm⟩
 ·have:=OwnS.row h.own b hb;have e':b=gm:=e;omega
 ·have e':i=gm:=hi;omega
theorem KdI.push {w4 w8 w:World}{d gm:Nat}{K A8:Option Addr}{kc c8:Nat}{ks:List Value}{v:Value}(h:KdI w4 w d gm K kc ks)(hv:TreeAt 3 (fun k=>w.heap.size<=k/\K.map (·.block)≠some k) w4 d v){o:Obj}
 (hg:(w4.alloc o).grownBy w8 (K.map (·.block))) (ho:OwnS w8 w.heap.size 26 8 A8 (ks.length+1) c8 (ks.flatMap cellsOf++cellsOf v)) (hat:A8.map (·.block)=K.map (·.block)\/A8.map (·.block)=some (w4.alloc o).heap.size):KdI w8 w d gm A8 c8 (ks++[v]):=by
 have X:=Ext.alloc w4 o;have kk:=KpP.of_grown hg;have hlt:∀u,TreeAt 3 (fun k=>w.heap.size<=k/\K.map (·.block)≠some k) w4 d u->TreeAt 3 (fun k=>w.heap.size<=k/\A8.map (·.block)≠some k) w8 d u:=fun u hu=>by
  have h1:TreeAt 3 (fun k=>(w.heap.size<=k/\A8.map (·.block)≠some k)/\K.map (·.block)≠some k) (w4.alloc o) d u:=(hu.ext X).imp (fun k hk hs=>⟨⟨hk.1,fun e=>?_⟩,hk.2⟩)
  ·exact(h1.kp kk (fun i hi hs=>hs.2 hi)).imp (fun k hk _=>hk.1)
  ·rcases hat with e2|e2
   ·rw[e2] at e;exact hk.2 e
   ·rw[e2] at e;injection e with e;omega
 refine⟨?_,fun u hu=>?_,(h.kp.trans (KpP.of_ext X)).chain kk (fun i hi=>.inr (OwnS.row h.own i hi)),h.gm⟩
 ·rw[List.length_append,List.flatMap_append]
  simpa using ho
 ·rcases List.mem_append.1 hu with hu|hu
  ·exact hlt u (h.tr u hu)
  ·have:u=v:=by simpa using hu
   subst this;exact hlt u hv
theorem ykids_any (d:Nat)(w0:World)(gm:Nat)(A:Option Addr)(c:Nat)(ls:List Int)(uses:Int)(hd:d<=100)
 (IH:∀(w:World) (B:Int),MkM w w0 gm A c ls uses B->B+numT d<=100000000->Calls Tryz.prog 149 #[.pointer (some ⟨gm,0,none⟩),.int .i64 d] w (RetNd 3 (d+1) w0 gm A c ls uses (B+numT d) w))
 (w:World) (B:Int) (h:MkM w w0 gm A c ls uses B) (hB:B+3*numT d+4<=100000000) :
 Calls Tryz.prog 186 #[.pointer (some ⟨gm,0,none⟩),.int .i64 ((d:Int)+1)] w (RetKids (d+1) w0 gm A c ls uses (B+3*numT d+4) w):=by
 have hgm:gm<w.heap.size:=by
  obtain⟨_,_,_,_,_,_,hb,_⟩:=h;exact hb.lt
 have hT:=numT_pos d;have HSW:=lh h.ext.size;generalize numT d=T at *;have H0:=lh h;have HI0:=lh (KdI.start w (d+1) gm hgm);have HIH:=lh IH;clear IH h;obtain⟨iR,jR0,jR1,jR2,jR3⟩:=info_parts infoRe;have ewd:IntKind.i64.wrap ((d:Int)+1-1)=(d:Int):=wj;go_enter Tryz.func186,Tryz.ntmps186
 go_upto_region 3 with fail
 go_loopw [5,6] (fun v5 v6 wr=>∃(K:Option Addr) (kc:Nat) (ks:List Value),v6=.int .i64 ks.length/\v5=.slice K ks.length kc/\ks.length<=3/\Hid (KdI wr w (d+1) gm K kc ks)/\Hid (MkM wr w0 gm A c ls uses (B+(T+1)*ks.length))) (fun _ v _=>3-(intOf v).toNat)
 case atStart=>exact⟨none,0,[],rfl,rfl,by simp,HI0,lh (by have h:=H0.out;simpa using h)⟩
 case round=>
  obtain⟨K,kc,ks,rfl,rfl,hk3,HI,HM⟩:=hrel;clear H0 HI0;have hTm:(T+1)*(ks.length:Int)<=(T+1)*3:=Int.mul_le_mul_of_nonneg_left om om
  go_upto_region 5 with(go_at_call 184;refine(ynext_any w0 wr gm A c ls uses _ 2 HM.out om om om).mono ?_;rintro e w3 ⟨x,rfl,hx0,hx1,M3,K3⟩)
  ·have hlt':(ks.length:Int)<2+x:=by first|assumption|simpa using ‹decide _=true›
   have hk2:ks.length<=2:=om;have HI3:=lh (HI.out.gmk K3);have HM3:=lh M3;have hTm2:(T+1)*(ks.length:Int)<=(T+1)*2:=Int.mul_le_mul_of_nonneg_left om om;clear HI HM M3 K3
   go_wp2_with (first|(go_at_call 149;refine(HIH.out w3 _ HM3.out om).mono ?_;rintro e w4 ⟨v,rfl,hv,M4,K4⟩;obtain⟨nd,hnd,_⟩:=hv.node;subst hnd;have HV:=lh hv;have HM4:=lh M4;have HI4:=lh (HI3.out.gmk K4);have HS4:w.heap.size<=w4.heap.size:=HI4.out.kp.size;clear hv M4;unfold Nd.val)|(at_builtin;refine wpList_app _ rfl _ _ _ rfl w.heap.size 26 iR reZ 8 96 Tryz.underlying24 jR0 jR1 jR2 jR3 rfl om K ks.length kc (ks.flatMap cellsOf) rfl (OwnS.ext HI4.out.own (Ext.alloc _ _)) _ 1 1 nd.cs rfl rfl (blk_cells (Blk.new _ _ _)) nd.one um om (Nat.le_trans HS4 (Ext.alloc _ _).size) ?_;intro A8 c8 w8 ho8 hg8 hat8))
   have HI8:=lh (HI4.out.push (HV.out.imp (fun k hk _=>⟨by have:=HI3.out.kp.size;omega,fun e=>by have:=(OwnS.blt HI3.out.own e).1;omega⟩)) hg8 ho8 hat8);have HM8:=lh ((HM4.out.extW (Ext.alloc w4 _)).kpq (KpP.of_grown hg8) (fun i hi=>by have:=OwnS.row HI4.out.own i hi;have:=HI4.out.gm;have:=HSW.out;omega));have e1:(ks++[nd.val]).length=ks.length+1:=by simp
   have hmul:(T+1)*((ks.length+1:Nat):Int)=(T+1)*(ks.length:Int)+(T+1):=by rw[Int.natCast_succ,Int.mul_add];omega
   go_roundw
   case rel=>exact⟨A8,c8,ks++[nd.val],by rw[e1];go_num,by rw[e1],om,HI8,by rw[e1,hmul];exact lh (HM8.out.mono om)⟩
   case measure=>simp[intOf];omega
  ·have hlt':¬(ks.length:Int)<2+x:=by first|assumption|omega|simpa using ‹¬decide _=true›
   go_ret
   refine⟨K,kc,ks,rfl,om,hk3,(OwnS.caps HI.out.own).1,by have:=(OwnS.caps HI.out.own).2;unfold maxLen;omega,?_,fun u hu=>?_,?_,M3.mono om,HI.out.kp.trans K3⟩
   ·exact OwnS.cells (HI.out.gmk K3).own
   ·exact((HI.out.gmk K3).tr u hu).imp (fun k hk _=>hk.1)
   ·exact OwnS.row HI.out.own
end

end Go.Proofs.YtmocoldobnimfaaGreat
