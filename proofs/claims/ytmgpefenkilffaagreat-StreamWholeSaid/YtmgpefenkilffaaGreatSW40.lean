/- Texts of this proof: PK8. -/
import Derived.Test.YtmgpefenkilffaaGreatSW38
set_option linter.all false
set_option maxRecDepth 100000
set_option maxHeartbeats 16000000
namespace Go.Proofs.YtmgpefenkilffaaGreat
section
open Go.RowKit
attribute [local go_sem ↓] Go.wp_at_zero Go.wp_at_succ
def RetRn (w0 w1:World)(gm gM:Nat)(gA:Option Addr)(n gc:Nat)(caps:Int)(rn:Bool)(T:Option Addr)(tn tc:Nat)(fr:Int)(g8 g9 g6:Nat)(R:Bool×Int)(e:Ending)(w':World):Prop:=e=.returned (.tuple #[])/\Ext w0 w'/\Blk w' g9 4 #[.bool R.1]/\(∃(st:Int) (A:Option Addr) (n c:Nat),Blk w' g8 56 #[.int .i64 st,.int .i64 R.2,.slice A n c]/\(R.1=true->st=fr))/\Blk w' g6 56 #[.int .i64 0,.int .i64 0,.slice none 0 0]/\
 Blk w' gm 258 #[.slice gA n gc,.int .i64 caps,.bool rn,.slice T tn tc,.slice (some ⟨gM,0,none⟩) n n]/\(∃ms:List Int,ms.length=n/\Blk w' gM 3 (iInts ms))/\KpP (fun b=>b=gM) w1 w'
theorem store_blkP {w:World}{g T:Nat}{v:Value}(h:Blk w g T #[v])(f:Nat)(cs:Array Value):(store ⟨g,0,none⟩ (.func (Fn.func f) #[] cs)).run Tryz.prog w=.ok () (w.setCell ⟨g,0,none⟩ (.func (Fn.func f) #[] cs)):=by
 have z0:w.cell? ⟨g,0,none⟩=some v:=h.cell 0;rw[run_store Tryz.prog w _ _ _ rfl,z0];simp[h.frz 0]
theorem mkIP (n:Nat)(h:n<=1000000)(W:World):(Instr.makeSlice 22 (.int .i64 (n:Int)) (.int .i64 (n:Int))).run Tryz.prog W=.ok (.slice (some ⟨W.heap.size,0,none⟩) n n) (W.alloc (.cells (iInts (List.replicate n 0)) 3)):=by
 obtain⟨i0,hi0,hz0,hz1,hz2⟩:=info_parts infoInt;have:=run_make (P:=Tryz.prog) W 22 3 i0 (.int .i64 0) Tryz.underlying22 hi0 hz0 .i64 .i64 n n om (Int.le_refl _) (by rw[hz2];omega) om;rw[this,hz1];simp only[Int.toNat_natCast,Value.cells];have e:madeCells #[.int .i64 0] (n*1)=iInts (List.replicate n 0):=by
  unfold madeCells iInts;refine Array.ext si (fun i h1 h2=>?_);simp[Nat.mod_one]
 rw[e]
theorem zero_int:∀w,(zeroValue 3).run Tryz.prog w=.ok (.int .i64 0) w:=fun w=>by
 obtain⟨i0,hi0,hz0,_⟩:=info_parts infoInt;simp[zeroValue,typeInfo,hi0,hz0,Result.andThen]
theorem prun_any (w0 w:World)(gm gM g3 g8 g9 g6:Nat)(gA:Option Addr)(gc:Nat)(hs:List Hin)(caps:Int)(rn:Bool)(T:Option Addr)(tc:Nat)(ts:List Int)(n2 i:Nat)(en:Int)
 (hG:GOk rn caps (insL hs)) (hP:PL w0 gA gc hs) (x0:Ext w0 w) (hT:IL w0 T tc ts) (hc2:2*caps=(n2:Int))
 (bm:Blk w gm 258 #[.slice gA hs.length gc,.int .i64 caps,.bool rn,.slice T ts.length tc,.slice (some ⟨gM,0,none⟩) hs.length hs.length])
 (bM:∃ms:List Int,ms.length=hs.length/\Blk w gM 3 (iInts ms)) (hM0:w0.heap.size<=gM)
 (b3:Blk w g3 153 #[.pointer (some ⟨gm,0,none⟩)]) (b9:Blk w g9 4 #[.bool false]) (b8:∃(st:Int) (A:Option Addr) (n c:Nat),Blk w g8 56 #[.int .i64 st,.int .i64 en,.slice A n c])
 (b6:Blk w g6 56 #[.int .i64 0,.int .i64 0,.slice none 0 0]) (n68:g6≠g8) (h89:w0.heap.size<=g8/\w0.heap.size<=g9) (wS:World) (hk1:Hid (KpP (fun b=>b=gM) wS w)) (h189:wS.heap.size<=g8/\wS.heap.size<=g9) (hi:i<=ts.length) (htl:ts.length<=65536) :
 Calls Tryz.prog 149 #[.pointer (some ⟨gm,0,none⟩),.int .i64 i,.int .i64 i,.func (.func 150) #[] #[.pointer (some ⟨g3,0,none⟩),.pointer (some ⟨g9,0,none⟩),.pointer (some ⟨g8,0,none⟩)]] w (RetRn w0 wS gm gM gA hs.length gc caps rn T ts.length tc (i:Int) g8 g9 g6 (pkR (insL hs) (ts.drop i) i (stateG (insL hs) [0]) (false,en))):=by
 obtain⟨ms,hml,bM⟩:=bM;have hn8:=hG.len;rw[insL_len] at hn8;have hcp:=hG.cap9;have hlM:=bM.lt;have X1:=Ext.alloc w (.cells #[.pointer (some ⟨gm,0,none⟩)] 153);have B4:=Blk.new w 153 #[.pointer (some ⟨gm,0,none⟩)];have egs:=egPSee;have hGG:=lh hG;have hPL:=lh hP;clear hG hP;have ega:=egPAdd;go_enter Tryz.func149,Tryz.ntmps149
 go_upto_region 1 with fail
 obtain⟨g4,hg4⟩:∃g,g=w.heap.size:=⟨_,rfl⟩
 rw[<-hg4] at B4 ⊢;have HG4:=lh hg4;clear hg4;generalize w.alloc (.cells #[.pointer (some ⟨gm,0,none⟩)] 153)=w1 at *;have bM1:=bM.ext X1;have bm1:=bm.ext X1;have c4:w1.cell? ⟨g4,0,none⟩=some (.pointer (some ⟨gm,0,none⟩)):=B4.cell 0;have cm4:w1.cell? ⟨gm,4,none⟩=some (.slice (some ⟨gM,0,none⟩) hs.length hs.length):=bm1.cell 4;have hcl:=fun ty=>Lib.run_clear_slice (P:=Tryz.prog) w1 22 3 ty (.int .i64 0) Tryz.underlying22 zero_int rfl rfl gM 0 hs.length hs.length hn8.1 (fun j hj=>by rw[bM1.cell];simp[iInts,hml,hj]) (fun j hj=>bM1.frz _);obtain⟨ds,d1,d2,d3,_⟩:=setCells_blk gM 3 (.int .i64 0) hs.length 0 w1 (iInts ms) bM1 (by simp[iInts,hml]);have kM:=setCells_kp gM (List.replicate hs.length (Value.int .i64 0)) 0 w1
 go_upto_region 2 with fail
 generalize w1.setCells gM 0 (List.replicate hs.length (Value.int .i64 0))=w2 at *;have hdz:ds=iInts (List.replicate hs.length 0):=by
  refine Array.ext (by simp[d2,iInts,hml]) (fun j h1 h2=>?_);have h3:=d3 j (Nat.zero_le _) (by simp[d2,iInts,hml] at h1;omega);rw[Array.getElem?_eq_getElem h1] at h3;injection h3 with h3
  rw[h3];simp[iInts]
 subst hdz;have HB4:=lh (kM.blk B4 (blk_blk B4 bM1 de));have HBM:=lh (kM.blk bm1 (blk_blk bm1 bM1 de));have H3:=lh (kM.blk (b3.ext X1) (blk_blk (b3.ext X1) bM1 de));have H9:=lh (kM.blk (b9.ext X1) (blk_blk (b9.ext X1) bM1 de));have H8:Hid (∃(st:Int) (A:Option Addr) (n c:Nat),Blk w2 g8 56 #[.int .i64 st,.int .i64 en,.slice A n c]):=lh (by
  obtain⟨st,A,n,c,b8⟩:=b8;exact⟨st,A,n,c,kM.blk (b8.ext X1) (blk_blk (b8.ext X1) bM1 de)⟩)
 have H6:=lh (kM.blk (b6.ext X1) (blk_blk (b6.ext X1) bM1 de));have HgM:=lh d1;have HX2:=lh (Ext.kp (x0.trans X1) kM (fun b hb=>by have e:b=gM:=hb;omega));have HW2:=lh (Nat.le_trans X1.size kM.size);have HK2:Hid (KpP (fun b=>b=gM) wS w2):=lh ((hk1.out.trans (KpP.of_ext X1)).trans kM);have cc4:w2.cell? ⟨g4,0,none⟩=some (.pointer (some ⟨gm,0,none⟩)):=HB4.out.cell 0;have cm1:w2.cell? ⟨gm,1,none⟩=some (.int .i64 caps):=HBM.out.cell 1;have H9l:=lh b9.lt;clear hcl d1 d2 d3 kM c4 cm4 bm1 bM1 B4 bM bm b3 b9 b8 X1;have hmk:=mkIP n2 om
 go_upto_region 3 with fail
 have XB:=Ext.alloc w2 (.cells (iInts (List.replicate n2 0)) 3);have BB:=Blk.new w2 3 (iInts (List.replicate n2 0));obtain⟨gb,hgb⟩:∃g,g=w2.heap.size:=⟨_,rfl⟩
 rw[<-hgb] at BB ⊢;have HGB:=lh hgb;clear hgb hmk;generalize w2.alloc (.cells (iInts (List.replicate n2 0)) 3)=w3 at *;have HXB:=lh XB;clear cc4 cm1 XB
 go_upto_region 4 with fail
 go_loopw [32] (fun v wr=>∃(j:Nat) (xs:List Int),v=.int .i64 j/\j<=n2/\Hid (xs.length=n2/\Blk wr gb 3 (iInts xs)/\∀x∈xs,x=0\/x = -1)/\Hid (KpP (·=gb) w3 wr)) (fun v _=>n2-(intOf v).toNat)
 case atStart=>exact⟨0,List.replicate n2 0,rfl,Nat.zero_le _,lh ⟨by simp,BB,fun x hx=>.inl (List.mem_replicate.1 hx).2⟩,lh (KpP.refl _ _)⟩
 case round=>
  clear BB;obtain⟨j,xs,rfl,hj,HXS,HK⟩:=hrel;by_cases hlt:j<n2
  ·have hltI:(j:Int)<n2:=om;have y0:wr.cell? ⟨gb,j,none⟩=some (.int .i64 (xs[j]'(by have:=HXS.out.1;omega))):=by
    have:=HXS.out.1;rw[HXS.out.2.1.cell];simp[iInts,show j<xs.length by omega]
   have f0:=HXS.out.2.1.frz j
   go_wp2_with fail
   go_roundw
   case rel=>exact⟨j+1,xs.set j (-1),by go_num,om,lh ⟨by rw[List.length_set];exact HXS.out.1,by rw[<-iInts_set];exact HXS.out.2.1.set j _,fun x hx=>by
    rcases List.mem_or_eq_of_mem_set hx with h|h
    ·exact HXS.out.2.2 x h
    ·exact .inr h⟩,lh (KpP.set (x:=⟨gb,j,none⟩) HK.out (.inl rfl) _)⟩
   case measure=>simp[intOf];omega
  ·have hltI:¬(j:Int)<n2:=om;have hF:Hid (∀{g T:Nat} {cs:Array Value},Blk w2 g T cs->Blk wr g T cs):=lh (fun h=>HK.out.blk (h.ext HXB.out) (fun e=>by have h1:=h.lt;have h2:=HGB.out;omega));have hXr:Hid (Ext w0 wr):=lh (Ext.kp (HX2.out.trans HXB.out) HK.out (fun b hb=>by have e:b=gb:=hb;have h1:=HX2.out.size;have h2:=HGB.out;omega));have HKr:Hid (KpP (fun b=>b=gM) wS wr):=lh ((HK2.out.trans (KpP.of_ext HXB.out)).chain HK.out (fun b hb=>by have e:b=gb:=hb;have h1:=HK2.out.size;have h2:=HGB.out;exact .inr om));have hsz:Hid (w.heap.size<=wr.heap.size/\w.heap.size<=gb/\gb<wr.heap.size):=lh (by have h1:=HXB.out.size;have h2:=HK.out.size;have h3:=HW2.out;have h4:=HGB.out;have h5:=HXS.out.2.1.lt;omega);have E10:=Ext.alloc wr (.cells #[.slice none 0 0] 260);have B10:=Blk.new wr 260 #[.slice none 0 0]
   go_upto_region 9 with fail
   obtain⟨g10,hg10⟩:∃g,g=wr.heap.size:=⟨_,rfl⟩
   rw[<-hg10] at B10 ⊢;have HG10:=lh hg10;clear hg10;generalize wr.alloc (.cells #[.slice none 0 0] 260)=w4 at *;have E13:=Ext.alloc w4 (.cells #[.bool false] 4);have B13:=Blk.new w4 4 #[.bool false]
   go_upto_region 10 with fail
   obtain⟨g13,hg13⟩:∃g,g=w4.heap.size:=⟨_,rfl⟩
   rw[<-hg13] at B13 ⊢;have HG13:=lh hg13;clear hg13;generalize w4.alloc (.cells #[.bool false] 4)=w5 at *;have BN:=Blk.new w5 332 #[.nilFunc]
   go_upto_region 11 with fail
   have hst:=store_blkP BN 211 #[.pointer (some ⟨g13,0,none⟩),.pointer (some ⟨g4,0,none⟩),.pointer (some ⟨g10,0,none⟩),.pointer (some ⟨w5.heap.size,0,none⟩)];have E14:=Ext.alloc w5 (.cells #[.func (Fn.func 211) #[] #[.pointer (some ⟨g13,0,none⟩),.pointer (some ⟨g4,0,none⟩),.pointer (some ⟨g10,0,none⟩),.pointer (some ⟨w5.heap.size,0,none⟩)]] 332);have B14:=Blk.new w5 332 #[.func (Fn.func 211) #[] #[.pointer (some ⟨g13,0,none⟩),.pointer (some ⟨g4,0,none⟩),.pointer (some ⟨g10,0,none⟩),.pointer (some ⟨w5.heap.size,0,none⟩)]]
   go_upto_region 13 with fail
   obtain⟨g14,hg14⟩:∃g,g=w5.heap.size:=⟨_,rfl⟩
   rw[<-hg14] at hst E14 B14 ⊢;clear hst BN hg14;generalize w5.alloc (.cells #[.func (Fn.func 211) #[] #[.pointer (some ⟨g13,0,none⟩),.pointer (some ⟨g4,0,none⟩),.pointer (some ⟨g10,0,none⟩),.pointer (some ⟨g14,0,none⟩)]] 332)=w6 at *;have X6:=lh (E10.trans (E13.trans E14));have HK16:=lh (HKr.out.trans (KpP.of_ext X6.out));have hPI:Hid (PkI ⟨w0,w.heap.size,g4,g10,g13,g14,gm,gM,gA,gc,hs.length,caps,rn,T,ts.length,tc,n2,(i:Int),wS⟩ w6 none 0 [] [] ((i:Int)+1) false):=lh ⟨hXr.out.trans X6.out,(hF.out HB4.out).ext X6.out,(hF.out HBM.out).ext X6.out,B13.ext E14,B14,B10.ext (E13.trans E14),OwnS.nil _ _ _ _,by simp,⟨List.replicate hs.length 0,(hF.out HgM.out).ext X6.out,by simp,fun q hq=>⟨⟨fun e=>by
    have hq':q<hs.length:=hq;simp[List.getD_eq_getElem?_getD,hq'] at e;omega,by simp⟩,by
    have hq':q<hs.length:=hq;simp[List.getD_eq_getElem?_getD,hq'];omega⟩⟩,⟨hlM,hM0⟩,by have h1:=HG10.out;have h2:=HG13.out;have h3:=hsz.out;have h4:=E10.size;exact⟨by show w.heap.size<=g10;omega,by show w.heap.size<=g13;omega⟩,by simp,HK16.out,hk1.out.size⟩
   have hSI:Hid (SeJ ⟨w0,w.heap.size,g4,g10,g13,g14,gm,gM,gA,gc,hs.length,caps,rn,T,ts.length,tc,n2,(i:Int),wS⟩ g3 g8 g9 g6 w6 false en):=lh ⟨⟨(hF.out H3.out).ext X6.out,(hF.out H9.out).ext X6.out,by
    obtain⟨st,A,n,c,b8⟩:=H8.out;exact⟨st,A,n,c,(hF.out b8).ext X6.out,fun h=>by cases h⟩,h89.1,h89.2,H9l.out,h189.1,h189.2⟩,(hF.out H6.out).ext X6.out,n68⟩
   have hRB:Hid (RegOk w6 w.heap.size n2 (some ⟨gb,0,none⟩) n2):=lh ⟨⟨xs,HXS.out.1,by
    have h:=IL.of_blk (xs:=xs) (HXS.out.2.1.ext X6.out) (fun x hx=>by rcases HXS.out.2.2 x hx with h|h<;>rw[h]<;>unfold I64<;>omega) (by rw[HXS.out.1];unfold maxLen;omega)
    rwa [HXS.out.1] at h⟩,fun b hb=>by
    have e:gb=b:=by simpa using hb
    subst e;exact⟨hsz.out.2.1,_,HXS.out.2.1.ext X6.out⟩⟩
   obtain⟨p,hp⟩:∃p:PkP,p=⟨w0,w.heap.size,g4,g10,g13,g14,gm,gM,gA,gc,hs.length,caps,rn,T,ts.length,tc,n2,(i:Int),wS⟩:=⟨_,rfl⟩
   rw[<-hp] at hPI hSI;have e0:w0=p.w0:=by rw[hp]
   have e4:g4=p.g4:=by rw[hp]
   have e10:g10=p.g10:=by rw[hp]
   have e13:g13=p.g13:=by rw[hp]
   have e14:g14=p.g14:=by rw[hp]
   have em:gm=p.gm:=by rw[hp]
   have eM:gM=p.gM:=by rw[hp]
   have eA:gA=p.gA:=by rw[hp]
   have ec:gc=p.gc:=by rw[hp]
   have hpn:p.n=hs.length:=by rw[hp]
   have ecp:caps=p.caps:=by rw[hp]
   have ern:rn=p.rn:=by rw[hp]
   have eT:T=p.T:=by rw[hp]
   have htn:p.tn=ts.length:=by rw[hp]
   have etc:tc=p.tc:=by rw[hp]
   have e2:n2=p.n2:=by rw[hp]
   have ew1:wS=p.w1:=by rw[hp]
   have HFR:Hid (p.fr=(i:Int)):=lh (by rw[hp]);have hpb:p.base=w.heap.size:=by rw[hp]
   clear hp B10 B13 B14 E10 E13 E14 HG10 HG13 X6 hF HK HXS hXr hsz
   rw[<-hpb] at hRB;subst e0 e4 e10 e13 e14 em eM eA ec ecp ern eT etc e2 ew1;clear hpb HGB;have HN2:Hid ((p.n2:Int)=2*p.caps):=lh hc2.symm;clear hc2;obtain⟨R,hR⟩:∃R,R=pkR (insL hs) (ts.drop i) i (stateG (insL hs) [0]) (false,en):=⟨_,rfl⟩
   rw[<-hR];have HR:=lh hR;clear hR
   go_loopw [1,11,12] (fun v1 v11 v12 wr=>∃(j:Nat) (A:Option Addr) (c:Nat) (ths:List Th) (sn:List Nat) (cl:Bool) (S:Option Addr) (d:Nat) (sp:List Th) (fb fd:Bool) (e1:Int),v1=.int .i64 ((i+j:Nat):Int)/\v11=.slice S sp.length d/\v12=.bool fb/\i+j<=ts.length/\Hid (PkI p wr A c ths sn (((i+j:Nat):Int)+1) cl)/\Hid (SeJ p g3 g8 g9 g6 wr fd e1)/\Hid (SpOp p wr A S d sp)/\Hid (RegOk wr p.base p.n2 (some ⟨gb,0,none⟩) p.n2)/\Hid (AddI hs.length (ths.map Th.pc,sn))/\Hid (j=0->fb=false/\cl=false/\ths=[]/\sn=[])/\Hid (pkR (insL hs) (ts.drop (i+j)) (i+j) (if j=0 then stateG (insL hs) [0] else ths.map Th.pc) (fd,e1)=R)) (fun v1 _ _ _=>ts.length-(intOf v1).toNat)
   case atStart=>exact⟨0,none,0,[],[],false,none,0,[],false,false,en,by simp,rfl,rfl,om,by simpa using hPI,hSI,lh ⟨OwnS.nil _ _ _ _,by simp,by simp,by simp⟩,hRB,lh ⟨SeenOk.nil _,by simp,by simp⟩,lh (fun _=>⟨rfl,rfl,rfl,rfl⟩),lh (by rw[if_pos rfl];exact HR.out.symm)⟩
   case round=>
    clear hPI hSI hRB;obtain⟨j,A,c,ths,sn,cl,S,d,sp,fb,fd,e1,rfl,rfl,rfl,hij,HPI,HSI,HSP,HRB,HAI,HJ0,HRR⟩:=hrel;obtain⟨q,hq⟩:∃q:Nat,q=i+j:=⟨_,rfl⟩;have HQ:=lh hq
    rw[<-hq] at HPI HRR hij ⊢;clear hq;have hcur:Hid (∃cur:St,cur=(if j=0 then stateG (insL hs) [0] else ths.map Th.pc)):=lh ⟨_,rfl⟩;obtain⟨cur,hcur⟩:=hcur.out
    rw[<-hcur] at HRR;have HCUR:=lh hcur;clear hcur;have hsl:=hPL.out.len
    go_upto_region 13 with fail
    go_cut [48] from 42 to 47 (fun v48 wx=>wr=wx/\∃b:Bool,v48=.bool b/\Hid (b=true<->j=0))
    case first=>
     by_cases hj0:j=0
     ·have hb:=(HJ0.out hj0).1;subst hb;have hqi:(q:Int)<=i:=by have:=HQ.out;omega
      have hjb:=lh hj0;clear hj0
      go_wp2_with fail
      go_meet
      exact⟨rfl,true,rfl,lh (Iff.intro (fun _=>hjb.out) (fun _=>rfl))⟩
     ·have hqi:¬(q:Int)<=i:=by have:=HQ.out;omega
      have hjb:=lh hj0;clear hj0
      go_wp2_with fail
      go_meet
      exact⟨rfl,false,rfl,lh (Iff.intro (fun e=>by cases e) (fun e=>absurd e hjb.out))⟩
    case rest=>
     obtain⟨rfl,b,rfl,HB⟩:=hcut
     go_upto_if 48 with fail
     go_cut [12] from 42 to 53 (fun v12 wc=>v12=.bool fb/\∃(A1:Option Addr) (c1:Nat) (ths1:List Th) (sn1:List Nat) (cl1:Bool),Hid (PkI p wc A1 c1 ths1 sn1 ((q:Int)+1) cl1)/\Hid (PT p A wr A1 wc)/\Hid (AddI hs.length (ths1.map Th.pc,sn1))/\Hid (ths1.map Th.pc=cur))
     case first=>
      cases b with
      | true=>
       have hj0:=HB.out.1 rfl;obtain⟨rfl,rfl,rfl,rfl⟩:=HJ0.out hj0;have HADD:=lh (padd_any p hs hGG.out hPL.out hpn HN2.out q q (lh (by rw[HFR.out];have:=HQ.out;omega)) om (hs.length+1) wr A c [] [] 0 (some ⟨gb,0,none⟩) p.n2 HPI.out HAI.out si hn8.1 HRB.out);have ca:wr.cell? ⟨p.g14,0,none⟩=some (.func (.func 211) #[] #[.pointer (some ⟨p.g13,0,none⟩),.pointer (some ⟨p.g4,0,none⟩),.pointer (some ⟨p.g10,0,none⟩),.pointer (some ⟨p.g14,0,none⟩)]):=HPI.out.b14.cell 0;have HAF:=addP_first (insL hs);have HAV:=(addP_inv (G:=insL hs) (hs.length+1) ([],[]) 0 (by rw[insL_len];exact HAI.out)).1;rw[insL_len] at HAF HAV;obtain⟨r,hr⟩:∃r,addP (insL hs) (hs.length+1) ([],[]) 0=r:=⟨_,rfl⟩;have hmn:(([]:List Th).map Th.pc)=[]:=rfl;rw[hmn,hr] at HADD;rw[hr] at HAF HAV;have HF:=lh HAF;have HV:=lh HAV;have hc0:Hid (cur=stateG (insL hs) [0]):=lh (by rw[HCUR.out,if_pos hj0]);clear hr HAF HAV hmn hj0
       go_wp2_with (go_at_fn 211;refine HADD.out.mono ?_;rintro e wx ⟨rfl,A1,c1,ths1,hpi,hl,hpt⟩;have HPI1:=lh hpi;have HL1:=lh hl;have HPT1:=lh hpt;clear hpi hl hpt)
       go_meet
       exact⟨rfl,A1,c1,ths1,r.1.2,!r.2,HPI1,HPT1,lh (by rw[HL1.out];exact HV.out),lh (by rw[HL1.out,HF.out,hc0.out])⟩
      | false=>
       have hj0:Hid (¬j=0):=lh (fun e=>by have h:=HB.out.2 e;cases h)
       go_wp2_with fail
       go_meet
       exact⟨rfl,A,c,ths,sn,cl,HPI,lh (PT.of_ext _ _ (Ext.rfl' _)),HAI,lh (by rw[HCUR.out,if_neg hj0.out])⟩
     case rest=>
      obtain⟨rfl,A1,c1,ths1,sn1,cl1,HP1,HT1,HA1,HC1⟩:=hcut;have HS1:=lh (HSI.out.keep HPI.out HT1.out.kp);have HO1:=lh (HSP.out.keep HPI.out HT1.out);have HB1:=lh (HPI.out.reg HT1.out.kp HRB.out);clear HSI HSP HRB HPI HT1 HAI HJ0 HB;have d13:wc.cell? ⟨p.g13,0,none⟩=some (.bool cl1):=HP1.out.b13.cell 0;have d10:wc.cell? ⟨p.g10,0,none⟩=some (.slice A1 ths1.length c1):=HP1.out.b10.cell 0
      go_upto_region 15 with fail
      go_cut [12] from 54 to 57 (fun v12 wx=>wc=wx/\∃b2:Bool,v12=.bool b2)
      case first=>
       cases fb with
       | true=>
        go_wp2_with fail
        go_meet
        exact⟨rfl,true,rfl⟩
       | false=>
        go_wp2_with fail
        go_meet
        exact⟨rfl,cl1,rfl⟩
      case rest=>
       obtain⟨rfl,b2,rfl⟩:=hcut;clear d13;have hle1:ths1.length<=hs.length:=by have:=HA1.out.len;have:=HA1.out.ok.len;simp only[List.length_map] at *;omega
       go_upto_region 16 with fail
       go_cut [15] from 58 to 68 (fun v15 wx=>wc=wx/\∃b3:Bool,v15=.bool b3/\Hid (b3=true<->ths1=[]))
       case first=>
        have hqi:(i:Int)<=q:=by have:=HQ.out;omega
        by_cases h0:ths1=[]
        ·subst h0;cases b2
         all_goals(
          go_wp2_with fail
          go_meet
          exact⟨rfl,true,rfl,lh (Iff.intro (fun _=>by simp) (fun _=>rfl))⟩)
        ·have hl0:0<ths1.length:=List.length_pos_iff.2 h0;have H0:=lh h0;clear h0
         go_wp2_with fail
         go_meet
         exact⟨rfl,false,rfl,lh (Iff.intro (fun e=>by cases e) (fun e=>absurd e H0.out))⟩
       case rest=>
        obtain⟨rfl,b3,rfl,HB3⟩:=hcut;have HSEE:=lh (psee_any p hs hGG.out hPL.out hpn HN2.out q g3 g8 g9 wc A1 c1 ths1 sn1 ((q:Int)+1) cl1 fd e1 HP1.out HS1.out.s (fun t ht=>HA1.out.lt t.pc (by simp;exact⟨t,ht,rfl⟩)) om)
        go_upto_region 17 with fail
        go_cut [85] from 69 to 84 (fun v85 we=>∃b4:Bool,v85=.bool b4/\Hid (b4=true<->ths1=[]\/q=ts.length)/\Hid (KpP (SQ g8 g9) wc we)/\Hid (SeI p g3 g8 g9 we (fd || doneG (insL hs) (ths1.map Th.pc)) (if doneG (insL hs) (ths1.map Th.pc)=true then(q:Int) else e1)))
        case first=>
         cases b3 with
         | true=>
          have h0:=lh (HB3.out.1 rfl)
          go_wp2_with (go_at_fn 150;refine HSEE.out.mono ?_;rintro e we ⟨rfl,hk,hse⟩;have HK:=lh hk;have HSE:=lh hse;clear hk hse)
          go_meet
          exact⟨true,rfl,lh (Iff.intro (fun _=>.inl h0.out) (fun _=>rfl)),HK,HSE⟩
         | false=>
          have hn0:Hid (ths1≠[]):=lh (fun e=>by have h:=HB3.out.2 e;cases h)
          go_wp2_with (go_at_fn 150;refine HSEE.out.mono ?_;rintro e we ⟨rfl,hk,hse⟩;have ce4:we.cell? ⟨p.g4,0,none⟩=some (.pointer (some ⟨p.gm,0,none⟩)):=(HP1.out.see HS1.out.s hk).b4.cell 0;have cem:we.cell? ⟨p.gm,3,none⟩=some (.slice p.T p.tn p.tc):=(HP1.out.see HS1.out.s hk).bm.cell 3;have HK:=lh hk;have HSE:=lh hse;clear hk hse)
          go_meet
          exact⟨decide (ts.length<=q),rfl,lh (by simp[hn0.out];omega),HK,HSE⟩
        case rest=>
         obtain⟨b4,rfl,HB4',HKE,HSE⟩:=hcut;have HP2:=lh (HP1.out.see HS1.out.s HKE.out);have HO2:=lh (HO1.out.see HS1.out.s HKE.out);have HB2:=lh (HB1.out.see HS1.out.s HKE.out);replace HSE:=lh (HS1.out.see HKE.out HSE.out);clear HSEE HP1 HO1 HB1 HS1 HKE d10 HB3
         cases b4 with
         | true=>
          have HZ:Hid ((fd || doneG (insL hs) cur,if doneG (insL hs) cur=true then(q:Int) else e1)=R):=lh (by
           rw[<-HRR.out,pkR_stop];rcases HB4'.out.1 rfl with h|h
           ·left;rw[<-HC1.out,h];rfl
           ·right;rw[h,List.drop_length])
          rw[HC1.out] at HSE;clear HB4' HRR
          go_wp2_with fail
          refine bodyPost_end (v:=.tuple #[]) (by simp[results,Tryz.results149,go_sem]) rfl ?_
          rw[<-HZ.out];exact⟨rfl,HP2.out.x,HSE.out.s.b9,(by obtain⟨st,A',n',c',h1,h2⟩:=HSE.out.s.b8;exact⟨st,A',n',c',h1,fun h=>by rw[h2 h,HFR.out]⟩),HSE.out.b6,(by have h:=HP2.out.bm;unfold pkC at h;rw[hpn,htn] at h;exact h),(by obtain⟨ms,h1,h2,_⟩:=HP2.out.ms;exact⟨ms,by rw[h2,hpn],h1⟩),HP2.out.y⟩
         | false=>
          have hql:q<ts.length:=by
           by_cases h:q=ts.length
           ·have h2:=HB4'.out.2 (.inr h);cases h2
           ·omega
          have HN0:Hid (ths1≠[]):=lh (fun h=>by have h2:=HB4'.out.2 (.inl h);cases h2);rw[HC1.out] at HSE;have HQL:=lh hql;have c10:wc.cell? ⟨p.g10,0,none⟩=some (.slice A1 ths1.length c1):=HP2.out.b10.cell 0;have q10:=kx0 c10;have hca:=OwnS.caps HO2.out.o;have hl10:=HP2.out.b10.lt;have HXW:=lh (Ext.rfl' wc);clear HB4' hij
          go_upto_region 18 with fail
          refine Xs.start [p.g10,p.g13] 3 kr ?_;refine Xst 0 ?_;refine Xs.take 1 (some 87) (v:=.slice S 0 d) rfl rfl dK (by rfl) (fun w' hk=>by
           cases S with
           | none=>go_simp
           | some s=>go_simp) ?_
          refine ptm ?_;refine Xst 2 ?_;refine Xs.stop dK (fun w1 hE1 hX1=>?_);refine Xsp 3 fun w2 hE2 hK2 K hKK=>?_;have hx:=hX1.trans hE2;have P2:=HP2.out.ext hx;have O2:=HO2.out.ext hx;have B2:=HB2.out.ext hx;have S2:=HSE.out.ext hx;have hc2:=hx.cell c10;have hz2:=P2.b10.frz 0;go_simp;refine hKK _ _ (WI_setL (WI_refl _ _ _) si _ _) (hK2.setL si _ _) ?_;have P3:=P2.swap O2.o;have O3:=SpOp.swap P2 O2;have B3:=P2.reg (swap_kp (S:=S) (d:=d) w2) B2;have S3:=S2.keep P2 (swap_kp (S:=S) (d:=d) w2);generalize w2.setCell ⟨p.g10,0,none⟩ (.slice S 0 d)=w3 at *;clear hKK hc2 hz2 hx P2 O2 B2 S2 hE1 hX1 hE2 hK2 q10 c10;refine ptm ?_;refine Xtk 4 ?_;refine Xsp 5 fun w4 hE4 hK4 K hKK=>?_;have P4:=P3.ext hE4;have hc4:=P4.b13.cell 0;have hz4:=P4.b13.frz 0;go_simp;refine hKK _ _ (WI_setL (WI_refl _ _ _) si _ _) (hK4.setL si _ _) ?_;have P5:=P4.close false;have T5:=close_pt (p:=p) w4 S false;have O5:=(O3.ext hE4).keep P4 T5;have B5:=P4.reg T5.kp (B3.ext hE4);have S5:=(S3.ext hE4).keep P4 T5.kp;generalize w4.setCell ⟨p.g13,0,none⟩ (.bool false)=w5 at *;clear hKK hc4 hz4 P3 O3 B3 S3 P4 T5 hE4 hK4;refine Xdn fun w6 hE6 hK6=>?_;have HP6:=lh (P5.ext hE6);have HO6:=lh (O5.ext hE6);have HB6:=lh (B5.ext hE6);have HS6:=lh (S5.ext hE6);clear P5 O5 B5 S5 hE6 hK6 HP2 HO2 HB2 HSE HXW
          go_wp2_with fail
          obtain⟨x,hx⟩:∃x,x=ts[q]:=⟨_,rfl⟩;have HX:=lh hx;have HZ:Hid (pkR (insL hs) (ts.drop (q+1)) (q+1) (nextG (insL hs) cur x) (fd || doneG (insL hs) cur,if doneG (insL hs) cur=true then(q:Int) else e1)=R):=lh (by
           rw[<-HRR.out,show ts.drop q=x::ts.drop (q+1) by rw[hx];exact List.drop_eq_getElem_cons hql,pkR_go (by rw[<-HC1.out];simpa using HN0.out)])
          clear hx hca hl10 hql HRR;generalize (fd || doneG (insL hs) cur)=fd2 at *;generalize (if doneG (insL hs) cur=true then(q:Int) else e1)=e2 at *
          go_loopw [91] (fun v wr=>∃(m:Nat) (A2:Option Addr) (c2:Nat) (ths2:List Th) (sn2:List Nat) (cl2:Bool),v=.int .i64 m/\m<=ths1.length/\Hid (PkI p wr A2 c2 ths2 sn2 ((q:Int)+1+1) cl2)/\Hid (SpOp p wr A2 A1 c1 ths1)/\Hid (RegOk wr p.base p.n2 (some ⟨gb,0,none⟩) p.n2)/\Hid (SeJ p g3 g8 g9 g6 wr fd2 e2)/\Hid (AddI hs.length (ths2.map Th.pc,sn2))/\Hid ((cur.take m).foldl (stepF (insL hs) (hs.length+1) x) (([],[]),true)=((ths2.map Th.pc,sn2),!cl2))) (fun v _=>ths1.length-(intOf v).toNat)
          case atStart=>exact⟨0,S,d,[],[],false,rfl,Nat.zero_le _,HP6,HO6,HB6,HS6,lh ⟨SeenOk.nil _,by simp,by simp⟩,lh rfl⟩
          case round=>
           clear HP6 HO6 HB6 HS6;obtain⟨m,A2,c2,ths2,sn2,cl2,rfl,hm,HPm,HOm,HBm,HSm,HAm,HFm⟩:=hrel;by_cases hlt:m<ths1.length
           ·have hltI:(m:Int)<ths1.length:=om;obtain⟨tb,to_,hA,hc⟩:=OwnS.cells HOm.out.o (by intro e;have:=flatT_len p.n2 ths1;rw[e] at this;simp at this;omega);have gc:=flatT_get p.n2 ths1 m hlt;have one:∀(i:Nat) (v:Value),(flatT p.n2 ths1)[i]? = some v->wr.cell? ⟨tb,to_+i,none⟩=some v:=fun i v hv=>by
             obtain⟨hi,e⟩:=List.getElem?_eq_some_iff.1 hv
             rw[<-e];exact hc i hi
            have q0:=one _ _ gc.1;have q1:wr.cell? ⟨tb,to_+m*3+1,none⟩=some (.int .i64 ths1[m].fr):=by rw[Nat.add_assoc];exact one _ _ gc.2.1
            have q2:wr.cell? ⟨tb,to_+m*3+2,none⟩=some (.slice ths1[m].A p.n2 ths1[m].c):=by rw[Nat.add_assoc];exact one _ _ gc.2.2
            have hmem:ths1[m]∈ths1:=List.getElem_mem _;have HRG:=lh (HOm.out.rg _ hmem);have HFT:=lh (HOm.out.ff _ hmem);have hpc:=HA1.out.lt ths1[m].pc (by simp;exact⟨_,hmem,rfl⟩);have hcl1:=OwnS.caps HOm.out.o;have HCM:Hid (cur.take (m+1)=cur.take m++[ths1[m].pc]):=lh (by rw[<-HC1.out,List.take_succ_eq_append_getElem (by simpa using hlt)];simp);generalize ths1[m]=t at *;clear gc one hc hmem;subst hA;have B8:=Blk.new wr 262 #[.int .i64 t.pc,.int .i64 t.fr,.slice t.A p.n2 t.c];have E8:=Ext.alloc wr (.cells #[.int .i64 t.pc,.int .i64 t.fr,.slice t.A p.n2 t.c] 262)
            go_upto_region 22 with fail
            obtain⟨gt,hgt⟩:∃g,g=wr.heap.size:=⟨_,rfl⟩
            rw[<-hgt] at B8 ⊢;have HGT:=lh hgt;clear hgt;generalize wr.alloc (.cells #[.int .i64 (t.pc:Int),.int .i64 t.fr,.slice t.A p.n2 t.c] 262)=w7 at *;have HP7:=lh (HPm.out.ext E8);have HB7:=lh B8;have HX7:=lh E8;have c4:w7.cell? ⟨p.g4,0,none⟩=some (.pointer (some ⟨p.gm,0,none⟩)):=HP7.out.b4.cell 0;have cm0:w7.cell? ⟨p.gm,0,none⟩=some (.slice p.gA hs.length p.gc):=by rw[<-hpn];exact HP7.out.bm.cell 0
            have ct:w7.cell? ⟨gt,0,none⟩=some (.int .i64 t.pc):=B8.cell 0;obtain⟨pb,po,hgA,i0,i1,i2,i3,i4⟩:=(hPL.out.ext HP7.out.x).get hpc;rw[hgA] at cm0;have HSL:=lh ((hPL.out.ext HP7.out.x).sl hs[t.pc] (List.getElem_mem _));have HSY:Hid (symAt (insL hs) x t.pc=(decide (hs[t.pc].op=1)&&has hs[t.pc].l x)):=lh (symAt_get hpc x);have HNX:Hid (hs[t.pc].op=1->t.pc+1<hs.length):=lh (fun e=>by
             have h:=hGG.out.next (k:=t.pc) (by rw[insL_len];exact hpc) (.inl (by rw[insL_getElem];exact e))
             rwa [insL_len] at h)
            generalize hs[t.pc]=h at *;have hpcI:(t.pc:Int)<hs.length:=om;clear B8 E8 q0 q1 q2 hgA;have d0:=kc0 c4;have d1:=kc0 cm0;have d2:=kc0 ct;have d3:=kc0 i0;have d4:=kc0 i1;have d5:=kc0 i2;have d6:=kc0 i3;have d7:=kc0 i4;refine Xr.start [] kr ?_;refine Xtk 0 ?_
            iterate 8(refine Xtn ?_)
            refine Xr.lazy 9 18 10 (fun g=>.pointer (some ⟨g,0,none⟩)) 129 #[.int .i64 0,.int .i64 0,.int .i64 0,.int .i64 0,.slice none 0 0] rfl si dK si (fun w'=>by go_simp) ?_;refine Xr.stepZ rfl dK (fun _=>by rfl) (fun w8 gx hE8 hK8 hgx hx _ K hKK=>?_);obtain⟨s0,s1,s2,s3,s4,s5⟩:=blk5 hx;have t0:=hx.frz 0;have t1:=hx.frz 1;have t2:=hx.frz 2;have t3:=hx.frz 3;have t4:=hx.frz 4;go_simp;refine hKK _ _ (WI_set (WI_set (WI_set (WI_set (WI_set (WI_refl _ _ _) 0 _) 1 _) 2 _) 3 _) 4 _) (Kp.setN (Kp.setN (Kp.setN (Kp.setN (Kp.setN hK8 hgx 0 _) hgx 1 _) hgx 2 _) hgx 3 _) hgx 4 _) ?_;have bx5:=((((hx.set 0 (.int .i64 h.op)).set 1 (.int .i64 h.x)).set 2 (.int .i64 h.y)).set 3 (.int .i64 h.n)).set 4 (.slice h.A h.l.length h.c);simp only[List.setIfInBounds_toArray,List.set_cons_zero,List.set_cons_succ] at bx5;clear hKK s0 s1 s2 s3 s4 s5 t0 t1 t2 t3 t4 hx;refine ptm ?_;generalize ((((w8.setCell ⟨gx,0,none⟩ (.int .i64 h.op)).setCell ⟨gx,1,none⟩ (.int .i64 h.x)).setCell ⟨gx,2,none⟩ (.int .i64 h.y)).setCell ⟨gx,3,none⟩ (.int .i64 h.n)).setCell ⟨gx,4,none⟩ (.slice h.A h.l.length h.c)=w9 at *;refine Xdn fun w10 hE10 hK10=>?_;have bx:=bx5.ext hE10;have y10:=hK10.nil;have HX10:=lh (HX7.out.trans y10);have HP10:=lh (HP7.out.ext y10);have HB10:=lh (HB7.out.ext y10);have HSL10:=lh (HSL.out.ext y10);clear d0 d1 d2 d3 d4 d5 d6 d7 c4 cm0 ct i0 i1 i2 i3 i4 bx5 hgx hE8 hK8 hE10 hK10 y10 HP7 HB7 HX7 HSL;by_cases hop:h.op=1
            ·have hql:=HQL.out;have hqb:q<=65536:=om;obtain⟨xb,xo,hTA,hTc⟩:=(hT.ext HP10.out.x).at_ (by intro e;rw[e] at hql;simp at hql);have hqc:w10.cell? ⟨xb,xo+q,none⟩=some (.int .i64 x):=by rw[HX.out];exact hTc q hql
             have cm3:w10.cell? ⟨p.gm,3,none⟩=some (.slice (some ⟨xb,xo,none⟩) ts.length p.tc):=by rw[<-hTA,<-htn];exact HP10.out.bm.cell 3
             have c4:w10.cell? ⟨p.g4,0,none⟩=some (.pointer (some ⟨p.gm,0,none⟩)):=HP10.out.b4.cell 0;obtain⟨s0,s1,s2,s3,s4,s5⟩:=blk5 bx;have hqI:(q:Int)<ts.length:=om;have htc1:=hT.le;have htc2:=hT.cap;unfold maxLen at htc2;have HNP:=lh (HNX.out hop);have HSS:Hid (symAt (insL hs) x t.pc=has h.l x):=lh (by rw[HSY.out,hop];simp);have d0:=kc0 c4;have d1:=kc0 cm3;have d2:=kc0 hqc;have d3:=kc0 s0;have d4:=kc0 s4;clear hTA hTc hqc cm3 c4 s0 s1 s2 s3 s4 s5 hql HNX HSY bx
             go_upto_region 23 with fail
             refine Xr.start [] kr ?_;refine Xtk 0 ?_
             iterate 3(refine Xtn ?_)
             iterate 9(first|refine Xtn ?_|refine Xsn ?_)
             refine Xcl 13 fun w11 hE11 hK11 K hKK=>?_;go_simp;refine(phas_any h.A h.c h.l x w11 (HSL10.out.ext hK11.nil)).mono ?_;rintro e w12 ⟨rfl,x12⟩;refine hKK _ _ x12 ?_;clear hKK;refine ptm ?_;refine Xtk 14 ?_;refine Xdn fun w13 hE13 hK13=>?_;have y13:=hK13.nil;have hk13:=HX10.out.trans y13;have HPn:=lh (HPm.out.ext hk13);have HOn:=lh (HOm.out.ext hk13);have HBn:=lh (HBm.out.ext hk13);have HSn:=lh (HSm.out.ext hk13);have HRn:=lh (HRG.out.ext hk13);have bt:=HB10.out.ext y13;have z0:w13.cell? ⟨gt,0,none⟩=some (.int .i64 t.pc):=bt.cell 0;have z1:w13.cell? ⟨gt,1,none⟩=some (.int .i64 t.fr):=bt.cell 1;have z2:w13.cell? ⟨gt,2,none⟩=some (.slice t.A p.n2 t.c):=bt.cell 2;have c14:w13.cell? ⟨p.g14,0,none⟩=some (.func (.func 211) #[] #[.pointer (some ⟨p.g13,0,none⟩),.pointer (some ⟨p.g4,0,none⟩),.pointer (some ⟨p.g10,0,none⟩),.pointer (some ⟨p.g14,0,none⟩)]):=HPn.out.b14.cell 0;clear d0 d1 d2 d3 d4 hE11 hK11 hE13 hK13 x12 y13 hk13 bt HPm HOm HBm HSm HRG HP10 HB10 HX10 HSL10 hop;obtain⟨hb,hhb⟩:∃hb,hb=has h.l x:=⟨_,rfl⟩
             rw[<-hhb] at HSS ⊢;clear hhb
             cases hb with
             | false=>
              have HFn:Hid ((cur.take (m+1)).foldl (stepF (insL hs) (hs.length+1) x) (([],[]),true)=((ths2.map Th.pc,sn2),!cl2)):=lh (by
               rw[HCM.out,List.foldl_append,HFm.out];simp[stepF,HSS.out])
              clear HFm HCM HSS
              go_wp2_with fail
              go_roundw
              case rel=>exact⟨m+1,A2,c2,ths2,sn2,cl2,by go_num,om,HPn,HOn,HBn,HSn,HAm,HFn⟩
              case measure=>simp[intOf];omega
             | true=>
              cases cl2 with
              | true=>
               have HFn:Hid ((cur.take (m+1)).foldl (stepF (insL hs) (hs.length+1) x) (([],[]),true)=((ths2.map Th.pc,sn2),!true)):=lh (by
                rw[HCM.out,List.foldl_append,HFm.out];simp[stepF,HSS.out])
               have HCL:=lh (padd_closed p w13 A2 c2 ths2 sn2 _ HPn.out ((t.pc:Int)+1) ((q:Int)+1) t.fr (.slice t.A p.n2 t.c));clear HFm HCM HSS
               go_wp2_with (go_at_fn 211;refine HCL.out.mono ?_;rintro e w14 ⟨rfl,x14⟩;have X14:=lh x14;clear x14)
               go_roundw
               case rel=>exact⟨m+1,A2,c2,ths2,sn2,true,by go_num,om,lh (HPn.out.ext X14.out),lh (HOn.out.ext X14.out),lh (HBn.out.ext X14.out),lh (HSn.out.ext X14.out),HAm,HFn⟩
               case measure=>simp[intOf];omega
              | false=>
               obtain⟨r,hr⟩:∃r,r=addP (insL hs) (hs.length+1) (ths2.map Th.pc,sn2) (t.pc+1):=⟨_,rfl⟩;have HFn:Hid ((cur.take (m+1)).foldl (stepF (insL hs) (hs.length+1) x) (([],[]),true)=r):=lh (by
                rw[HCM.out,List.foldl_append,HFm.out,hr];simp[stepF,HSS.out])
               have HAV:=(addP_inv (G:=insL hs) (hs.length+1) (ths2.map Th.pc,sn2) (t.pc+1) (by rw[insL_len];exact HAm.out)).1;rw[insL_len,<-hr] at HAV;have hADD:=padd_any p hs hGG.out hPL.out hpn HN2.out ((q:Int)+1) t.fr HFT om (hs.length+1) w13 A2 c2 ths2 sn2 (t.pc+1) t.A t.c HPn.out HAm.out om HNP.out HRn.out
               rw[<-hr,show((t.pc+1:Nat):Int)=(t.pc:Int)+1 from by omega] at hADD;have HADD:=lh hADD;have HV:=lh HAV;clear HFm HCM HSS hr hADD HAV HAm
               go_wp2_with (go_at_fn 211;refine HADD.out.mono ?_;rintro e w14 ⟨rfl,A3,c3,ths3,hpi,hl,hpt⟩;have HPI3:=lh hpi;have HL3:=lh hl;have HPT3:=lh hpt;clear hpi hl hpt)
               go_roundw
               case rel=>exact⟨m+1,A3,c3,ths3,r.1.2,!r.2,by go_num,om,HPI3,lh (HOn.out.keep HPn.out HPT3.out),lh (HPn.out.reg HPT3.out.kp HBn.out),lh (HSn.out.keep HPn.out HPT3.out.kp),lh (by rw[HL3.out];exact HV.out),lh (by rw[HFn.out,HL3.out];simp)⟩
               case measure=>simp[intOf];omega
            ·have HFn:Hid ((cur.take (m+1)).foldl (stepF (insL hs) (hs.length+1) x) (([],[]),true)=((ths2.map Th.pc,sn2),!cl2)):=lh (by
              rw[HCM.out,List.foldl_append,HFm.out];simp[stepF,HSY.out,hop])
             have hop1:(h.op == 1)=false:=by simp[hop]
             have z0:w10.cell? ⟨gx,0,none⟩=some (.int .i64 h.op):=bx.cell 0;have HPn:=lh (HPm.out.ext HX10.out);have HOn:=lh (HOm.out.ext HX10.out);have HBn:=lh (HBm.out.ext HX10.out);have HSn:=lh (HSm.out.ext HX10.out);clear HPm HOm HBm HSm HFm HCM HSY HNX bx HRG HP10 HB10 HX10 HSL10
             go_wp2_with (go_quiet (fail))
             go_roundw
             case rel=>exact⟨m+1,A2,c2,ths2,sn2,cl2,by go_num,om,lh (HPn.out.ext (Ext.drewN _ _)),lh (HOn.out.ext (Ext.drewN _ _)),lh (HBn.out.ext (Ext.drewN _ _)),lh (HSn.out.ext (Ext.drewN _ _)),HAm,HFn⟩
             case measure=>simp[intOf];omega
           ·have hltI:¬(m:Int)<ths1.length:=om;have hml:m=ths1.length:=om;have HN:Hid (ths2.map Th.pc=nextG (insL hs) cur x):=lh (by
             have h:=stepF_next (insL hs) x cur;have h2:=HFm.out;rw[List.take_of_length_le (by rw[<-HC1.out,hml];simp)] at h2;rw[insL_len,h2] at h;exact h)
            clear hml HFm;have hql:=HQL.out;have hqb:q<=65536:=om;clear hql
            go_wp2_with fail
            go_roundw
            case rel=>
             have hq:=HQ.out;refine⟨j+1,A2,c2,ths2,sn2,cl2,A1,c1,ths1,b2,fd2,e2,?_,rfl,rfl,by have:=HQL.out;omega,?_,HSm,HOm,HBm,HAm,lh (fun e=>om),lh ?_⟩
             ·rw[show((i+(j+1):Nat):Int)=(q:Int)+1 from by omega]
             ·rw[show((i+(j+1):Nat):Int)=(q:Int)+1 from by omega];exact HPm
             ·rw[if_neg om,HN.out,show i+(j+1)=q+1 from by omega];exact HZ.out
            case measure=>
             have hq:=HQL.out;simp[intOf];omega
end
end Go.Proofs.YtmgpefenkilffaaGreat
