/- Texts of this proof: U3 PK4. -/
import Derived.Test.YtmgpefenkilffaaGreatSW33
set_option linter.all false
set_option maxRecDepth 100000
set_option maxHeartbeats 16000000
namespace Go.Proofs.YtmgpefenkilffaaGreat
section
open Go.RowKit
attribute [local go_sem ↓] Go.wp_at_zero Go.wp_at_succ
structure Cd where
 A:Option Addr
 c:Nat
 hs:List Hin
 rn:Bool
 cA:Option Addr
 cc:Nat
 cuts:List Int
 lA:Option Addr
 lc:Nat
 ls:List Bool
structure CdAt (w:World)(gc:Nat)(cd:Cd):Prop where
 blk:Blk w gc 136 #[.slice cd.A cd.hs.length cd.c,.bool cd.rn,.slice cd.cA cd.cuts.length cd.cc,.slice cd.lA cd.ls.length cd.lc]
 pl:PL w cd.A cd.c cd.hs
 il:IL w cd.cA cd.cc cd.cuts
 ib:IB w cd.lA cd.lc cd.ls
def stmC (gc gS gM n:Nat)(mark rd:Int)(fv:Value):Array Value:=#[.pointer (some ⟨gc,0,none⟩),.map (some gS),.slice (some ⟨gM,0,none⟩) n n,.int .i64 mark,.int .i64 rd,fv]
structure RchI (wr w0:World)(p:LsP)(gc gS n:Nat)(mark rd:Int)(fv:Value)(s:List Nat×List Nat):Prop where
 kp:KpP (fun b=>b=p.gb\/b=p.gM) w0 wr
 bB:Blk wr p.gB 120 #[.pointer (some ⟨p.gb,0,none⟩)]
 bA:Blk wr p.ga 240 #[.func (.func 202) #[] #[.pointer (some ⟨p.gB,0,none⟩),.pointer (some ⟨p.gl,0,none⟩),.pointer (some ⟨p.ga,0,none⟩)]]
 bl:∃A c,Blk wr p.gl 22 #[.slice A s.1.length c]/\OwnS wr p.base 3 1 A s.1.length c ((natsI s.1).map (Value.int .i64))
 bb:Blk wr p.gb 134 (stmC gc gS p.gM n mark rd fv)
 bm:∃ms,Blk wr p.gM 3 (iInts ms)/\ms.length=n/\∀i,i<n->((ms.getD i 0=mark<->i∈s.2)/\ms.getD i 0<=mark)
 lM:p.gM<p.base
 l0:w0.heap.size<=p.base
 ll:p.base<=p.gl
theorem RchI.extW {wr w' w0:World}{p:LsP}{gc gS n:Nat}{mark rd:Int}{fv:Value}{s:List Nat×List Nat}(h:RchI wr w0 p gc gS n mark rd fv s)(x:Ext wr w'):RchI w' w0 p gc gS n mark rd fv s:=by
 obtain⟨h1,h2,h3,⟨A,c,h4,h5⟩,h6,⟨ms,h7,h8⟩,h9,h10,h11⟩:=h;exact⟨h1.trans (KpP.of_ext x),h2.ext x,h3.ext x,⟨A,c,h4.ext x,OwnS.ext h5 x⟩,h6.ext x,⟨ms,h7.ext x,h8⟩,h9,h10,h11⟩
theorem RchI.mark {wr w0:World}{p:LsP}{gc gS n:Nat}{mark rd:Int}{fv:Value}{s:List Nat×List Nat}(h:RchI wr w0 p gc gS n mark rd fv s){pc:Nat}(hp:pc<n) :
 RchI (wr.setCell ⟨p.gM,pc,none⟩ (.int .i64 mark)) w0 p gc gS n mark rd fv (s.1,s.2++[pc]):=by
 obtain⟨h1,h2,h3,⟨A,c,h4,h5⟩,h6,⟨ms,h7,h8,h8'⟩,h9,h10,h11⟩:=h;have d1:=blk_blk h2 h7 de;have d2:=blk_blk h3 h7 de;have d3:=blk_blk h4 h7 de;have d4:=blk_blk h6 h7 de;refine⟨KpP.set (x:=⟨p.gM,pc,none⟩) h1 (.inl (.inr rfl)) _,h2.far d1 _,h3.far d2 _,⟨A,c,h4.far d3 _,OwnS.far h5 (fun e=>?_) _⟩,h6.far d4 _,⟨ms.set pc mark,?_,by rw[List.length_set];exact h8,fun i hi=>?_⟩,h9,h10,h11⟩
 ·have:=OwnS.row h5 _ e
  simp only at this;omega
 ·rw[<-iInts_set];exact h7.set pc _
 ·have hi2:i<ms.length:=om;have h12:=h8' i hi;simp only[List.getD_eq_getElem?_getD] at h12;simp only[List.getD_eq_getElem?_getD,List.getElem?_set,List.mem_append,List.mem_singleton];by_cases e:pc=i
  ·subst e;simp[hi2]
  ·rw[if_neg e];refine⟨⟨fun h13=>.inl (h12.1.1 h13),?_⟩,h12.2⟩;rintro(h13|h13)
   ·exact h12.1.2 h13
   ·exact absurd h13.symm e
def RsK (p:LsP)(w:World)(b:Nat):Prop:=b=p.gM\/(p.base<=b/\(b=p.gl\/∃cur,w.heap[b]? = some (.cells cur 3 (0,0))))
theorem RsK.chain {p:LsP}{w w1 w2:World}(h:KpP (RsK p w) w w1)(k:KpP (RsK p w1) w1 w2):KpP (RsK p w) w w2:=
 ⟨k.os.trans h.os,k.tape.trans h.tape,k.output.trans h.output,Nat.le_trans h.size k.size,fun i hi hn=>by
  have h1:=h.block i hi hn;refine(k.block i (Nat.lt_of_lt_of_le hi h.size) (fun hq=>hn ?_)).trans h1;rcases hq with hq|⟨h2,hq|⟨cur,hq⟩⟩
  ·exact .inl hq
  ·exact .inr ⟨h2,.inl hq⟩
  ·exact .inr ⟨h2,.inr ⟨cur,h1▸hq⟩⟩⟩
theorem RsK.blk {p:LsP}{w w1:World}(h:KpP (RsK p w) w w1){g T:Nat}{cs:Array Value}(hb:Blk w g T cs)(hM:g≠p.gM)(hl:g≠p.gl)(hT:T≠3):Blk w1 g T cs:=
 (h.block g hb.lt (fun hq=>by
  rcases hq with hq|⟨_,hq|⟨cur,hq⟩⟩
  ·exact hM hq
  ·exact hl hq
  ·unfold Blk at hb;rw[hb] at hq;injection hq with hq;injection hq with _ h2
   exact hT h2)).trans hb
def RetAdd3 (w0:World)(p:LsP)(gc gS n:Nat)(mark rd:Int)(fv:Value)(r:(List Nat×List Nat)×Bool)(w:World)(e:Ending)(w':World):Prop:=
 e=.returned (.bool r.2)/\RchI w' w0 p gc gS n mark rd fv r.1/\KpP (RsK p w) w w'
theorem egReach:∀args w,(callFunc 202 args).run Tryz.prog w=.ok (.enter 202 args) w:=enters_of Tryz.func202 kr rfl
theorem rsi_put {wx w8 w0:World}{base gB gl ga gb gM:Nat}{gc gS n:Nat}{mark rd:Int}{fv:Value}{s:List Nat×List Nat}{pc:Nat}{LA A8:Option Addr}{lc c8:Nat}
 (h:RchI wx w0 ⟨base,gB,gl,ga,gb,gM⟩ gc gS n mark rd fv (s.1,s.2++[pc])) (hg:(wx.alloc (.cells #[.int .i64 pc] 3)).grownBy w8 (LA.map (·.block)))
 (ho:OwnS w8 base 3 1 A8 (s.1.length+1) c8 ((natsI s.1).map (Value.int .i64)++[.int .i64 pc])) (ol:OwnS wx base 3 1 LA s.1.length lc ((natsI s.1).map (Value.int .i64))) :
 RchI (w8.setCell ⟨gl,0,none⟩ (.slice A8 (s.1.length+1) c8)) w0 ⟨base,gB,gl,ga,gb,gM⟩ gc gS n mark rd fv (s.1++[pc],s.2++[pc]):=by
 obtain⟨h1,h2,h3,⟨A,c,h4,h5⟩,h6,⟨ms,h7,h8,h8'⟩,h9,h10,h11⟩:=h;have X:=Ext.alloc wx (.cells #[.int .i64 pc] 3);have k:=KpP.of_grown hg;have olx:=OwnS.ext ol X;have hM:LA.map (·.block)≠some gM:=fun e=>by
  have:=OwnS.row olx _ e
  simp only at h9;omega
 have b2:=k.blk (h2.ext X) (own_blk olx (h2.ext X) de);have b3:=k.blk (h3.ext X) (own_blk olx (h3.ext X) de);have b4:=k.blk (h4.ext X) (own_blk olx (h4.ext X) de);have b6:=k.blk (h6.ext X) (own_blk olx (h6.ext X) de);have b7:=k.blk (h7.ext X) hM;have d2:=blk_blk b2 b4 de;have d3:=blk_blk b3 b4 de;have d6:=blk_blk b6 b4 de;have d7:=blk_blk b7 b4 de;have x8:KpP (fun b=>b=gb\/b=gM) w0 w8:=(h1.trans (KpP.of_ext X)).thenGrown hg (fun i hi=>by
  have:=OwnS.row olx _ hi
  simp only at h9 h10 h11;omega)
 refine⟨KpP.set (x:=⟨gl,0,none⟩) x8 (.inr (by simp only at h9 h10 h11;simp only;omega)) _,b2.far d2 _,b3.far d3 _,⟨A8,c8,?_,?_⟩,b6.far d6 _,⟨ms,b7.far d7 _,h8,h8'⟩,h9,h10,h11⟩
 ·have b:=b4.set 0 (.slice A8 (s.1.length+1) c8)
  simpa using b
 ·have e:(natsI (s.1++[pc])).map (Value.int .i64)=(natsI s.1).map (Value.int .i64)++[.int .i64 pc]:=by simp[natsI]
  have e2:(s.1++[pc]).length=s.1.length+1:=by simp
  simp only[e,e2];exact OwnS.far ho (fun e=>by
   have:=own_blk ho b4 de;exact this e) _
theorem rsk_put {p:LsP}{wa w8:World}{LA:Option Addr}{n lc:Nat}{xs:List Value}(ll:p.base<=p.gl)(hg:wa.grownBy w8 (LA.map (·.block)))(ol:OwnS wa p.base 3 1 LA n lc xs)(v:Value):KpP (RsK p wa) wa (w8.setCell ⟨p.gl,0,none⟩ v):=by
 refine KpP.set (x:=⟨p.gl,0,none⟩) (KpP.mono (KpP.of_grown hg) (fun i hi=>?_)) (.inl (.inr ⟨ll,.inl rfl⟩)) v;obtain⟨_,cur,hh⟩:=OwnS.blt ol hi;exact .inr ⟨OwnS.row ol _ hi,.inr ⟨cur,hh⟩⟩
theorem U3z1 {P:Prop} (h:P:=by
 obtain⟨LA,lc,bl,ol⟩:=hIx.out.bl;have bl':Blk wx gl 22 #[.slice LA s.1.length lc]:=bl;have ol':OwnS wx base 3 1 LA s.1.length lc ((natsI s.1).map (Value.int .i64)):=ol;have hsl:s.1.length<=hs.length:=by have:=HAP.out.len;have:=HAP.out.ok.len;simp only[List.length_append,List.length_cons,List.length_nil] at *;omega
 have hbs:base<=wx.heap.size:=by have:=bl'.lt;omega
 have HX8:=lh hIx.out;have hl0:wx.cell? ⟨gl,0,none⟩=some (.slice LA s.1.length lc):=bl'.cell 0;obtain⟨iI,jI0,jI1,jI2,jI3⟩:=info_parts infoI1;have EP:=Ext.alloc wx (.cells #[.int .i64 pc] 3);have HBL:=fun(w8:World) (hg:(wx.alloc (.cells #[.int .i64 pc] 3)).grownBy w8 (LA.map (·.block)))=>(KpP.of_grown hg).blk (bl'.ext EP) (own_blk (OwnS.ext ol' EP) (bl'.ext EP) de);clear HST HIH hju hju2 hnx bl ol z1 hIx
 go_wp2_with ((at_builtin;refine wpList_app _ rfl _ _ _ rfl base 3 iI (.int .i64 0) 1 8 Tryz.underlying22 jI0 jI1 jI2 jI3 rfl om LA s.1.length lc ((natsI s.1).map (Value.int .i64)) rfl (OwnS.ext ol' (Ext.alloc _ _)) _ 1 1 [.int .i64 pc] rfl rfl (blk_cells (Blk.new _ _ _)) (by intro u hu;simp only[List.mem_cons,List.not_mem_nil,or_false] at hu;rcases hu with rfl;rfl) um om (Nat.le_trans hbs (Ext.alloc _ _).size) ?_;intro A8 c8 w8 ho8 hg8 hat8;have cl8:=(HBL w8 hg8).cell 0;have fl8:=(HBL w8 hg8).frz 0))
 have K8:=(Kx.trans (KpP.of_ext (Ext.alloc wx (.cells #[.int .i64 pc] 3))));have h8:=rsi_put HX8.out hg8 ho8 ol';have KK:=rsk_put (p:=⟨base,gB,gl,ga,gb,gM⟩) ll hg8 (OwnS.ext ol' (Ext.alloc wx (.cells #[.int .i64 pc] 3)));go_ret
 exact⟨by rw[HR.out];rfl,by rw[HR.out];exact h8,RsK.chain K8 (KK _)⟩):P:=h
theorem U3z2 {P:Prop} (h:P:=by
 go_wp2_with (go_at_fn 202;refine HC.out.mono ?_;rintro e w7 ⟨rfl,h7,k7⟩)
 go_ret
 exact⟨by rw[HR.out];rfl,by rw[HR.out];exact h7,RsK.chain Kx k7⟩):P:=h
theorem reachC_any (w0:World)(base gB gl ga gb gM gc gS:Nat)(cd:Cd)(runes:Bool)(caps:Int)(hG:GOk runes caps (insL cd.hs))(hC:∀w',KpP (fun b=>b=gb\/b=gM) w0 w'->CdAt w' gc cd)(mark rd:Int)(fv:Value) :
 ∀(f:Nat) (w:World) (s:List Nat×List Nat) (pc:Nat),RchI w w0 ⟨base,gB,gl,ga,gb,gM⟩ gc gS cd.hs.length mark rd fv s->AddI cd.hs.length s->cd.hs.length<f+s.2.length->pc<cd.hs.length->
 Calls Tryz.prog 202 #[.int .i64 pc,.pointer (some ⟨gB,0,none⟩),.pointer (some ⟨gl,0,none⟩),.pointer (some ⟨ga,0,none⟩)] w (RetAdd3 w0 ⟨base,gB,gl,ga,gb,gM⟩ gc gS cd.hs.length mark rd fv (addP (insL cd.hs) f s pc) w):=by
 have hP:∀w',KpP (fun b=>b=gb\/b=gM) w0 w'->PL w' cd.A cd.c cd.hs:=fun w' k=>(hC w' k).pl;have hCb:∀w',KpP (fun b=>b=gb\/b=gM) w0 w'->w'.cell? ⟨gc,0,none⟩=some (.slice cd.A cd.hs.length cd.c):=fun w' k=>(hC w' k).blk.cell 0;have hPl:=(hP w0 (KpP.refl _ _)).len;clear hC;obtain⟨hs,gA,ic,hE⟩:∃hs A c,cd.hs=hs/\cd.A=A/\cd.c=c:=⟨_,_,_,rfl,rfl,rfl⟩;obtain⟨e1,e2,e3⟩:=hE;rw[e1] at hPl hG hCb hP ⊢;rw[e2] at hCb hP;rw[e3] at hPl hCb hP;clear e1 e2 e3;intro f;induction f with
 | zero=>
  intro w s pc hI hA hf hp;have:=hA.ok.len;omega
 | succ f ih=>
  intro w s pc hI hA hf hp;have eg:=egReach;obtain⟨x0,bB,bA,⟨A,c,bl,ol⟩,bb,⟨ms,bm,hml,hmk⟩,lM,l0,ll⟩:=hI
  simp only at bB bA bl ol bb bm lM l0 ll
  have hI:=lh (show RchI w w0 ⟨base,gB,gl,ga,gb,gM⟩ gc gS hs.length mark rd fv s from⟨x0,bB,bA,⟨A,c,bl,ol⟩,bb,⟨ms,bm,hml,hmk⟩,lM,l0,ll⟩);have hgl:=hPl;have hn8:=hG.len;rw[insL_len] at hn8;have hpI:(pc:Int)<hs.length:=om;have hpm:pc<ms.length:=om;have cB:w.cell? ⟨gB,0,none⟩=some (.pointer (some ⟨gb,0,none⟩)):=bB.cell 0;have cM:w.cell? ⟨gb,2,none⟩=some (.slice (some ⟨gM,0,none⟩) hs.length hs.length):=bb.cell 2;have ck:w.cell? ⟨gb,3,none⟩=some (.int .i64 mark):=bb.cell 3;have cm:w.cell? ⟨gM,pc,none⟩=some (.int .i64 ms[pc]):=by rw[bm.cell];simp[iInts,hpm]
  have hmp:=(hmk pc hp).1;have hgd:ms.getD pc 0=ms[pc]:=by simp[List.getD_eq_getElem?_getD,hpm]
  rw[hgd] at hmp;clear hgd hmk hml;by_cases hm:pc∈s.2
  ·have hx:=hmp.2 hm;rw[hx] at cm;rw[addP_old hm];have j1:=kc0 cB;have j2:=kc0 cM;have j3:=kc0 ck;have j4:=kc0 cm;clear hx hmp hm hf hA bB bA bl ol bb bm ih;go_enter Tryz.func202,Tryz.ntmps202
   go_upto_region 1 with fail
   refine Xr.start [] kr ?_;refine Xtk 0 ?_
   iterate 11(refine Xtn ?_)
   refine Xdn fun w4 hE4 hK4=>?_;clear j1 j2 j3 j4
   go_wp2_with fail
   go_ret
   exact⟨rfl,hI.out.extW hE4,KpP.of_ext hE4⟩
  ·have hx:(ms[pc] == mark)=false:=by
    rw[beq_eq_false_iff_ne];exact fun e=>hm (hmp.1 e)
   have hins:=insL_get hp;have HST:=lh (addP_step (f:=f) hm hins);have HAS:=lh (hA.see hp hm);have HAP:=lh (hA.put hp hm);obtain⟨r,hr⟩:∃r,Hid (addP (insL hs) (f+1) s pc=r):=⟨_,lh rfl⟩;rw[hr.out] at HST ⊢;have nB:=blk_blk bB bm de;have nb:=blk_blk bb bm de;generalize ms[pc]=mx at *;clear hmp;have j1:=kc0 cB;have j2:=kc0 cM;have j3:=kc0 ck;have j4:=kc0 cm;have HIH:=lh ih;have HG:=lh hG;have HPP:=lh hP;have HCB:=lh hCb;clear ih hG hP hCb hPl;go_enter Tryz.func202,Tryz.ntmps202
   go_upto_region 1 with fail
   refine Xr.start [] kr ?_;refine Xtk 0 ?_
   iterate 11(refine Xtn ?_)
   refine Xdn fun w4 hE4 hK4=>?_;clear j1 j2 j3 j4;have k1:=fun(w':World) (h:Kp [gM] w4 w')=>h.cell (hE4.cell cB) (by simpa using nB);have k2:=fun(w':World) (h:Kp [gM] w4 w')=>h.cell (hE4.cell cM) (by simpa using nb);have k3:=fun(w':World) (h:Kp [gM] w4 w')=>h.cell (hE4.cell ck) (by simpa using nb)
   go_upto_region 3 with fail
   refine Xr.start [gM] kr ?_;refine Xtk 0 ?_
   iterate 9(refine Xtn ?_)
   refine Xsp 10 fun w5 hE5 hK5 K hKK=>?_;have c5:=(hE4.trans hE5).cell cm;have f5:=(bm.ext (hE4.trans hE5)).frz pc;go_simp;refine hKK _ _ (WI_setL (WI_refl _ _ _) List.mem_cons_self _ _) (hK5.setL List.mem_cons_self _ _) ?_;clear hKK;refine ptm ?_;refine Xdn fun w6 hE6 hK6=>?_;have hI6:=lh (((hI.out.extW (hE4.trans hE5)).mark hp).extW hE6);have K6:KpP (RsK ⟨base,gB,gl,ga,gb,gM⟩ w) w w6:=(KpP.set (x:=⟨gM,pc,none⟩) (KpP.of_ext (hE4.trans hE5)) (.inl (.inl rfl)) (.int .i64 mark)).trans (KpP.of_ext hE6);clear k1 k2 k3 c5 f5 hE4 hK4 hE5 hK5 hE6 hK6 cB cM ck cm bB bA bl ol bb bm hx;have cB:w6.cell? ⟨gB,0,none⟩=some (.pointer (some ⟨gb,0,none⟩)):=hI6.out.bB.cell 0;have c0b:w6.cell? ⟨gb,0,none⟩=some (.pointer (some ⟨gc,0,none⟩)):=hI6.out.bb.cell 0;have c0c:w6.cell? ⟨gc,0,none⟩=some (.slice gA hs.length ic):=HCB.out _ hI6.out.kp;obtain⟨pb,po,hgA,c0,c1,c2,c3,c4⟩:=(HPP.out _ hI6.out.kp).get hp;have hgA':=hgA;subst hgA';obtain⟨h,hh⟩:∃h,Hid (hs[pc]=h):=⟨_,lh rfl⟩;rw[hh.out] at c0 c1 c2 c3 c4 HST;have BX:=Blk.new w6 129 #[.int .i64 h.op,.int .i64 h.x,.int .i64 h.y,.int .i64 h.n,.slice h.A h.l.length h.c];have EX:=Ext.alloc w6 (.cells #[.int .i64 h.op,.int .i64 h.x,.int .i64 h.y,.int .i64 h.n,.slice h.A h.l.length h.c] 129)
   go_upto_region 5 with fail
   obtain⟨gx,hgx⟩:∃gx,gx=w6.heap.size:=⟨_,rfl⟩
   rw[<-hgx] at BX ⊢;generalize w6.alloc (.cells #[.int .i64 h.op,.int .i64 h.x,.int .i64 h.y,.int .i64 h.n,.slice h.A h.l.length h.c] 129)=wx at *;have hIx:=lh (hI6.out.extW EX);have Kx:=K6.trans (KpP.of_ext EX);have hMx:gx≠gM:=by
    obtain⟨ms,b,_⟩:=hIx.out.bm;exact blk_blk BX b de
   have hlx:gx≠gl:=by
    obtain⟨A,c,b,_⟩:=hIx.out.bl;exact blk_blk BX b de
   have z0:wx.cell? ⟨gx,0,none⟩=some (.int .i64 h.op):=BX.cell 0;have z1:wx.cell? ⟨gx,1,none⟩=some (.int .i64 h.x):=BX.cell 1;have hpG:pc<(insL hs).length:=by rw[insL_len];exact hp
   have hgi:(insL hs)[pc]=h.ins:=by rw[insL_getElem,hh.out]
   have hop:=HG.out.op hpG;have hnx:=HG.out.next hpG;have hju:=HG.out.jump hpG;have hju2:=HG.out.jump2 hpG;rw[hgi] at hop hnx hju hju2;rw[insL_len] at hnx hju hju2;have ca:wx.cell? ⟨ga,0,none⟩=some (.func (.func 202) #[] #[.pointer (some ⟨gB,0,none⟩),.pointer (some ⟨gl,0,none⟩),.pointer (some ⟨ga,0,none⟩)]):=hIx.out.bA.cell 0;clear hgi hpG cB c0b c0c c0 c1 c2 c3 c4 hI6 K6 hgx hI;have hfs:hs.length<f+(s.2++[pc]).length:=by simp only[List.length_append,List.length_cons,List.length_nil];omega
   have hop':h.op=0\/h.op=1\/h.op=2\/h.op=3\/h.op=4:=hop;clear hop;by_cases h0:h.op=0
   ·skip
    rw[h0] at z0;have HR:Hid (r=((s.1++[pc],s.2++[pc]),false)):=lh (by
     rw[HST.out,if_neg (show ¬h.ins.op=2 from by show ¬h.op=2;omega),if_neg (show ¬h.ins.op=3 from by show ¬h.op=3;omega),if_neg (show ¬h.ins.op=4 from by show ¬h.op=4;omega)];have e:decide (h.ins.op≠0)=false:=by
      show decide (h.op≠0)=false
      rw[h0];rfl
     rw[e])
    exact U3z1
   ·by_cases h1:h.op=1
    ·skip
     rw[h1] at z0;have HR:Hid (r=((s.1++[pc],s.2++[pc]),true)):=lh (by
      rw[HST.out,if_neg (show ¬h.ins.op=2 from by show ¬h.op=2;omega),if_neg (show ¬h.ins.op=3 from by show ¬h.op=3;omega),if_neg (show ¬h.ins.op=4 from by show ¬h.op=4;omega)];have e:decide (h.ins.op≠0)=true:=by
       show decide (h.op≠0)=true
       rw[h1];rfl
      rw[e])
     exact U3z1
    ·by_cases h2:h.op=2
     ·skip
      obtain⟨x,hx,hxl⟩:=hju (.inl h2);obtain⟨y,hy,hyl⟩:=hju2 h2;have hx':h.x=(x:Int):=hx;have hy':h.y=(y:Int):=hy;have z2:wx.cell? ⟨gx,2,none⟩=some (.int .i64 h.y):=BX.cell 2;rw[h2] at z0;rw[hx'] at z1;rw[hy'] at z2;have HC:=lh (HIH.out wx (s.1,s.2++[pc]) x hIx.out HAS.out hfs hxl);have hn':(insL hs).length=hs.length:=insL_len hs;have HI1:=lh (addP_inv (G:=insL hs) f (s.1,s.2++[pc]) x (by rw[hn'];exact HAS.out));rw[hn'] at HI1;have HR:Hid (r=if(addP (insL hs) f (s.1,s.2++[pc]) x).2=true then addP (insL hs) f (addP (insL hs) f (s.1,s.2++[pc]) x).1 y else addP (insL hs) f (s.1,s.2++[pc]) x):=lh (by
       rw[HST.out,if_pos (show h.ins.op=2 from h2)];have e:h.ins.x.toNat=x:=by show h.x.toNat=x;omega
       have e2:h.ins.y.toNat=y:=by show h.y.toNat=y;omega
       rw[e,e2])
      obtain⟨r1,hr1⟩:∃r1,Hid (addP (insL hs) f (s.1,s.2++[pc]) x=r1):=⟨_,lh rfl⟩;rw[hr1.out] at HC HR HI1;obtain⟨s1,b1⟩:=r1;have hs1:(s.2++[pc]).length<=s1.2.length:=HI1.out.2;have hy9:=lh hy';clear HST hju hju2 hnx hx hx' hy hy' hn';by_cases hb:b1=true
      ·subst hb;have HR2:Hid (r=addP (insL hs) f s1 y):=lh (by rw[HR.out,if_pos rfl]);have HC2:=fun(w':World) (hI:RchI w' w0 ⟨base,gB,gl,ga,gb,gM⟩ gc gS hs.length mark rd fv s1)=>lh (HIH.out w' s1 y hI HI1.out.1 om hyl);clear HR HIH
       go_upto_region 15 with fail
       go_wp2_with fail
       refine HC.out.mono ?_;rintro e w7 ⟨rfl,h7,k7⟩;have BX7:=RsK.blk k7 BX hMx hlx de;have z27:w7.cell? ⟨gx,2,none⟩=some (.int .i64 y):=by rw[<-hy9.out];exact BX7.cell 2
       have ca7:w7.cell? ⟨ga,0,none⟩=some (.func (.func 202) #[] #[.pointer (some ⟨gB,0,none⟩),.pointer (some ⟨gl,0,none⟩),.pointer (some ⟨ga,0,none⟩)]):=h7.bA.cell 0;have HH7:=lh h7;have HK7:=lh k7;clear BX7 BX z0 z1 z2 ca h7 k7
       go_wp2_with fail
       refine(HC2 _ HH7.out).out.mono ?_;rintro e w9 ⟨rfl,h9,k9⟩;have h7:=HH7.out;have k7:=HK7.out
       go_wp2_with fail
       go_ret
       exact⟨by rw[HR2.out];rfl,by rw[HR2.out];exact h9,RsK.chain Kx (RsK.chain k7 k9)⟩
      ·have hb2:b1=false:=by simpa using hb
       subst hb2;have HR2:Hid (r=(s1,false)):=lh (by rw[HR.out,if_neg si]);clear HR HIH
       go_upto_region 15 with fail
       go_wp2_with (go_at_fn 202;refine HC.out.mono ?_;rintro e w7 ⟨rfl,h7,k7⟩)
       go_ret
       exact⟨by rw[HR2.out];rfl,by rw[HR2.out];exact h7,RsK.chain Kx k7⟩
     ·by_cases h3:h.op=3
      ·obtain⟨x,hx,hxl⟩:=hju (.inr h3);have hx':h.x=(x:Int):=hx;rw[h3] at z0;rw[hx'] at z1;have HC:=lh (HIH.out wx (s.1,s.2++[pc]) x hIx.out HAS.out hfs hxl);have HR:Hid (r=addP (insL hs) f (s.1,s.2++[pc]) x):=lh (by
        rw[HST.out,if_neg (show ¬h.ins.op=2 from h2),if_pos (show h.ins.op=3 from h3)];have e:h.ins.x.toNat=x:=by show h.x.toNat=x;omega
        rw[e])
       clear HST HIH hju hju2 hnx hx hx'
       go_upto_region 13 with fail
       exact U3z2
      ·have h4:h.op=4:=om;have hnl:=hnx (.inr h4);rw[h4] at z0;have HC:=lh (HIH.out wx (s.1,s.2++[pc]) (pc+1) hIx.out HAS.out hfs hnl);have HR:Hid (r=addP (insL hs) f (s.1,s.2++[pc]) (pc+1)):=lh (by
        rw[HST.out,if_neg (show ¬h.ins.op=2 from h2),if_neg (show ¬h.ins.op=3 from h3),if_pos (show h.ins.op=4 from h4)])
       have hw1:IntKind.i64.wrap ((pc:Int)+1)=((pc+1:Nat):Int):=wj;clear HST HIH hju hju2 hnx;exact U3z2
def pkL (p:PkP)(A:Option Addr)(M:List Nat):List Nat:=p.gM::p.g10::p.g13::((A.map (·.block)).toList++M)
theorem PQ.mem {p:PkP}{A:Option Addr}{M:List Nat}:∀i,PQ p A i->i∈pkL p A M:=fun i h=>by
 rcases h with h|h|h|h
 ·simp[pkL,h]
 ·simp[pkL,h]
 ·simp[pkL,h]
 ·simp[pkL,h]
theorem PkI.nin {p:PkP}{w:World}{A:Option Addr}{c:Nat}{ths:List Th}{sn:List Nat}{mk:Int}{cl:Bool}(h:PkI p w A c ths sn mk cl){g T:Nat}{cs:Array Value}(hb:Blk w g T cs)(t1:T≠3)(t2:T≠260)(t3:T≠4)(t4:T≠262)
 {M:List Nat} (hM:g∉M):g∉pkL p A M:=fun e=>by
 obtain⟨ms,hms,_⟩:=h.ms;simp only[pkL,List.mem_cons,List.mem_append,Option.mem_toList] at e;rcases e with e|e|e|e|e
 ·exact blk_blk hb hms t1 e
 ·exact blk_blk hb h.b10 t2 e
 ·exact blk_blk hb h.b13 t3 e
 ·exact own_blk h.o hb (fun e=>t4 e.symm) e
 ·exact hM e
theorem cells_take {W:World}{b o N:Nat}{xs:List Int}(h:∀i (hi:i<xs.length),W.cell? ⟨b,o+i,none⟩=some (.int .i64 xs[i])):∀b',some (⟨b,o,none⟩:Addr)=some b'->∀(j:Nat) (u:Value),((xs.take N).map (Value.int .i64))[j]? = some u->W.cell? (b'.add j)=some u:=fun b' hb j u hu=>by
 injection hb with hb;subst hb
 obtain⟨hj,e⟩:=List.getElem?_eq_some_iff.1 hu
 rw[<-e,Addr.add_lit];simp only[List.getElem_map,List.getElem_take];exact h j (by simp at hj;omega)
def RetPa (p:PkP)(A:Option Addr)(mk:Int)(r:(List Nat×List Nat)×Bool)(w:World)(e:Ending)(w':World):Prop:=
 e=.returned (.tuple #[])/\∃(A':Option Addr) (c':Nat) (ths':List Th),PkI p w' A' c' ths' r.1.2 mk (!r.2)/\ths'.map Th.pc=r.1.1/\PT p A w A' w'
theorem padd_closed (p:PkP)(w:World)(A:Option Addr)(c:Nat)(ths:List Th)(sn:List Nat)(mk:Int)(h:PkI p w A c ths sn mk true)(pc at_ fr:Int)(R:Value) :
 Calls Tryz.prog 211 #[.int .i64 pc,.int .i64 at_,.int .i64 fr,R,.pointer (some ⟨p.g13,0,none⟩),.pointer (some ⟨p.g4,0,none⟩),.pointer (some ⟨p.g10,0,none⟩),.pointer (some ⟨p.g14,0,none⟩)] w (RetV (.tuple #[]) w):=by
 have c0:w.cell? ⟨p.g13,0,none⟩=some (.bool true):=h.b13.cell 0;clear h;go_enter Tryz.func211,Tryz.ntmps211
 go_wp2_with fail
 exact bodyPost_end (v:=.tuple #[]) (by simp[results,Tryz.results211,go_sem]) rfl ⟨rfl,Ext.rfl' _⟩
theorem padP {P:Prop}(h:P:=by
 rw[h0] at z0 HRR;clear HST HIH hju hju2 hsv hnx z1 z2 z3 hop';have b10:=HX.out.b10;have ol:=HX.out.o;have HP:=fun(wa w8:World) (xa:Ext wx wa) (A8:Option Addr) (c8:Nat) (hg:wa.grownBy w8 (A.map (·.block))) (ho:OwnS w8 p.base 262 3 A8 (ths++[(⟨pc,fr,RA,rc⟩:Th)]).length c8 (flatT p.n2 (ths++[⟨pc,fr,RA,rc⟩]))) (hat:A8.map (·.block)=A.map (·.block)\/A8.map (·.block)=some wa.heap.size)=>lh ((HX.out.ext xa).put ⟨pc,fr,RA,rc⟩ hfr.out (HRX.out.ext xa) hg ho hat);have hl10:wx.cell? ⟨p.g10,0,none⟩=some (.slice A ths.length c):=b10.cell 0;have hsl:ths.length<=hs.length:=by have:=HAP.out.len;have:=HAP.out.ok.len;simp only[List.length_append,List.length_cons,List.length_nil,List.length_map] at *;omega
 have hbs:p.base<=wx.heap.size:=by have:=HX.out.lb.1;have:=b10.lt;omega
 obtain⟨iI,jI0,jI1,jI2,jI3⟩:=info_parts infoTh;obtain⟨us,hus⟩:∃us,us=ths++[(⟨pc,fr,RA,rc⟩:Th)]:=⟨_,rfl⟩
 rw[<-hus] at HP;have HUS:=lh hus;have hul:Hid (us.length=ths.length+1):=lh (by rw[hus];simp);clear hus;have HBL:=fun(wa w8:World) (xa:Ext wx wa) (hg:wa.grownBy w8 (A.map (·.block)))=>(KpP.of_grown hg).blk (b10.ext xa) (own_blk (OwnS.ext ol xa) (b10.ext xa) de);have HBI:=lh (Blk.new wx 262 #[.int .i64 pc,.int .i64 fr,.slice RA p.n2 rc]);have hap8:hs.length<=8192:=hn8.2
 go_upto_region 7 with(at_builtin;refine wpList_app _ rfl _ _ _ rfl p.base 262 iI _ 3 40 Tryz.underlying260 jI0 jI1 jI2 jI3 rfl om A ths.length c (flatT p.n2 ths) rfl (OwnS.ext ol (Ext.alloc _ _)) _ 1 1 [.int .i64 pc,.int .i64 fr,.slice RA p.n2 rc] rfl rfl (blk_cells HBI.out) (by intro u hu;simp only[List.mem_cons,List.not_mem_nil,or_false] at hu;rcases hu with rfl|rfl|rfl<;>rfl) um om (Nat.le_trans hbs (Ext.alloc _ _).size) ?_;intro A8 c8 w8 ho8 hg8 hat8;have cl8:=(HBL _ w8 (Ext.alloc _ _) hg8).cell 0;have fl8:=(HBL _ w8 (Ext.alloc _ _) hg8).frz 0)
 have hoc:OwnS w8 p.base 262 3 A8 us.length c8 (flatT p.n2 us):=by
  rw[HUS.out,flatT_app,List.length_append];exact ho8
 obtain⟨hp9,ht9⟩:=(HP _ w8 (Ext.alloc _ _) A8 c8 hg8 hoc hat8).out;have HT9:=lh (HT.out.trans ((PT.of_ext p A (Ext.alloc wx (.cells #[.int .i64 pc,.int .i64 fr,.slice RA p.n2 rc] 262))).trans ht9));have HB9:=HX.out.blk ((PT.of_ext p A (Ext.alloc wx (.cells #[.int .i64 pc,.int .i64 fr,.slice RA p.n2 rc] 262))).trans ht9).kp HBX.out de de de de;rw[hul.out] at hp9 HT9 HB9;generalize w8.setCell ⟨p.g10,0,none⟩ (.slice A8 (ths.length+1) c8)=w9 at *;have HP9:=lh hp9;have y0:w9.cell? ⟨gx,0,none⟩=some (.int .i64 h.op):=HB9.cell 0;rw[h0] at y0;have y13:w9.cell? ⟨p.g13,0,none⟩=some (.bool false):=hp9.b13.cell 0;have f13:=hp9.b13.frz 0;clear hp9 ht9 hoc hg8 ho8 hat8 cl8 fl8 HB9 HBL HP hl10 ol b10 z0 ca HBI
 go_wp2_with fail
 have hmp:us.map Th.pc=ths.map Th.pc++[pc]:=by rw[HUS.out];simp
 refine bodyPost_end (v:=.tuple #[]) (by simp[results,Tryz.results211,go_sem]) rfl ⟨rfl,A8,c8,us,?_,by rw[HRR.out];exact hmp,HT9.out.trans ⟨KpP.set (x:=⟨p.g13,0,none⟩) (KpP.refl (PQ p A8) _) (.inl (.inr (.inr (.inl rfl)))) _,.inl rfl⟩⟩;rw[HRR.out];exact HP9.out.close _):P:=h
theorem padd_any (p:PkP)(hs:List Hin)(hG:GOk p.rn p.caps (insL hs))(hP:PL p.w0 p.gA p.gc hs)(hpn:p.n=hs.length)(hn2:(p.n2:Int)=2*p.caps)(at_ fr:Int)(hfr:Hid (fr=p.fr))(hat:0<=at_/\at_<=1000000) :
 ∀(f:Nat) (w:World) (A:Option Addr) (c:Nat) (ths:List Th) (sn:List Nat) (pc:Nat) (RA:Option Addr) (rc:Nat),PkI p w A c ths sn (at_+1) false->AddI hs.length (ths.map Th.pc,sn)->hs.length<f+sn.length->pc<hs.length->RegOk w p.base p.n2 RA rc->
 Calls Tryz.prog 211 #[.int .i64 pc,.int .i64 at_,.int .i64 fr,.slice RA p.n2 rc,.pointer (some ⟨p.g13,0,none⟩),.pointer (some ⟨p.g4,0,none⟩),.pointer (some ⟨p.g10,0,none⟩),.pointer (some ⟨p.g14,0,none⟩)] w (RetPa p A (at_+1) (addP (insL hs) f (ths.map Th.pc,sn) pc) w):=by
 intro f;induction f with
 | zero=>
  intro w A c ths sn pc RA rc hI hA hf hp _;have:=hA.ok.len
  simp only at this
  omega
 | succ f ih=>
  intro w A c ths sn pc RA rc hI hA hf hp hr;have eg:=egPAdd;have HI:=lh hI;have HR:=lh hr;obtain⟨ms,bM,hml,hmk⟩:=hI.ms;have hn8:=hG.len;rw[insL_len] at hn8;have hpI:(pc:Int)<hs.length:=om;have hpm:pc<ms.length:=om;have c13:w.cell? ⟨p.g13,0,none⟩=some (.bool false):=hI.b13.cell 0;have c4:w.cell? ⟨p.g4,0,none⟩=some (.pointer (some ⟨p.gm,0,none⟩)):=hI.b4.cell 0;have cM:w.cell? ⟨p.gm,4,none⟩=some (.slice (some ⟨p.gM,0,none⟩) hs.length hs.length):=by rw[<-hpn];exact hI.bm.cell 4
  have cm:w.cell? ⟨p.gM,pc,none⟩=some (.int .i64 ms[pc]):=by rw[bM.cell];simp[iInts,hpm]
  have fm:=bM.frz pc;have hmp:=(hmk pc om).1;have hgd:ms.getD pc 0=ms[pc]:=by simp[List.getD_eq_getElem?_getD,hpm]
  rw[hgd] at hmp;clear hgd hmk hml hI hr;by_cases hm:pc∈sn
  ·have hx:=hmp.2 hm;rw[hx] at cm;rw[addP_old (show pc∈((ths.map Th.pc,sn):List Nat×List Nat).2 from hm)];clear hx hmp hm hf hA ih bM;go_enter Tryz.func211,Tryz.ntmps211
   go_wp2_with fail
   exact bodyPost_end (v:=.tuple #[]) (by simp[results,Tryz.results211,go_sem]) rfl ⟨rfl,A,c,ths,HI.out,rfl,PT.of_ext _ _ (Ext.rfl' _)⟩
  ·have hx:(ms[pc] == at_+1)=false:=by
    rw[beq_eq_false_iff_ne];exact fun e=>hm (hmp.1 e)
   have hins:=insL_get hp;have HST:=lh (addP_step (f:=f) (s:=(ths.map Th.pc,sn)) hm hins);have HAS:=lh (hA.see hp hm);have HAP:=lh (hA.put hp hm);obtain⟨r,hr⟩:∃r,Hid (addP (insL hs) (f+1) (ths.map Th.pc,sn) pc=r):=⟨_,lh rfl⟩;rw[hr.out] at HST ⊢;generalize ms[pc]=mx at *;clear hmp;have HIH:=lh ih;have HG:=lh hG;have n4:=blk_blk HI.out.b4 bM de;have nm:=blk_blk HI.out.bm bM de;have HS:=lh (HI.out.seen (pc:=pc) om);have HK:=lh (KpP.set (x:=⟨p.gM,pc,none⟩) (KpP.refl (PQ p A) w) (.inl (.inl rfl)) (.int .i64 (at_+1)));have HF:=lh hf;clear ih hG hf;go_enter Tryz.func211,Tryz.ntmps211
   go_upto_region 2 with fail
   generalize w.setCell ⟨p.gM,pc,none⟩ (.int .i64 (at_+1))=w5 at *;clear c13 c4 cM cm fm bM hx n4 nm;have c4:w5.cell? ⟨p.g4,0,none⟩=some (.pointer (some ⟨p.gm,0,none⟩)):=HS.out.b4.cell 0;have c0b:w5.cell? ⟨p.gm,0,none⟩=some (.slice p.gA hs.length p.gc):=by rw[<-hpn];exact HS.out.bm.cell 0
   obtain⟨pb,po,hgA,c0,c1,c2,c3,c5⟩:=(hP.ext HS.out.x).get hp;rw[hgA] at c0b;obtain⟨h,hh⟩:∃h,Hid (hs[pc]=h):=⟨_,lh rfl⟩;rw[hh.out] at c0 c1 c2 c3 c5 HST;have BX:=Blk.new w5 129 #[.int .i64 h.op,.int .i64 h.x,.int .i64 h.y,.int .i64 h.n,.slice h.A h.l.length h.c];have EX:=Ext.alloc w5 (.cells #[.int .i64 h.op,.int .i64 h.x,.int .i64 h.y,.int .i64 h.n,.slice h.A h.l.length h.c] 129);have hgl:=hP.len
   go_upto_region 3 with fail
   obtain⟨gx,hgx⟩:∃gx,gx=w5.heap.size:=⟨_,rfl⟩
   rw[<-hgx] at BX ⊢;have HGX:=lh hgx;clear hgx;generalize w5.alloc (.cells #[.int .i64 h.op,.int .i64 h.x,.int .i64 h.y,.int .i64 h.n,.slice h.A h.l.length h.c] 129)=wx at *;have HX:=lh (HS.out.ext EX);have HT:Hid (PT p A w A wx):=lh ⟨HK.out.trans (KpP.of_ext EX),.inl rfl⟩;have HRX:=lh (HI.out.reg (HK.out.trans (KpP.of_ext EX)) HR.out);have HBX:=lh BX;have z0:wx.cell? ⟨gx,0,none⟩=some (.int .i64 h.op):=BX.cell 0;have z1:wx.cell? ⟨gx,1,none⟩=some (.int .i64 h.x):=BX.cell 1;have z2:wx.cell? ⟨gx,2,none⟩=some (.int .i64 h.y):=BX.cell 2;have z3:wx.cell? ⟨gx,3,none⟩=some (.int .i64 h.n):=BX.cell 3;have hpG:pc<(insL hs).length:=by rw[insL_len];exact hp
   have hgi:(insL hs)[pc]=h.ins:=by rw[insL_getElem,hh.out]
   have hop:=HG.out.op hpG;have hnx:=HG.out.next hpG;have hju:=HG.out.jump hpG;have hju2:=HG.out.jump2 hpG;have hsv:=(HG.out.ins pc hpG).2.2.2.2;rw[hgi] at hop hnx hju hju2 hsv;rw[insL_len] at hnx hju hju2;have ca:wx.cell? ⟨p.g14,0,none⟩=some (.func (.func 211) #[] #[.pointer (some ⟨p.g13,0,none⟩),.pointer (some ⟨p.g4,0,none⟩),.pointer (some ⟨p.g10,0,none⟩),.pointer (some ⟨p.g14,0,none⟩)]):=HX.out.b14.cell 0;clear hgi hpG c0b c0 c1 c2 c3 c4 c5 HS HK BX EX HI HR hgA;have hfs:hs.length<f+(sn++[pc]).length:=by have:=HF.out;simp only[List.length_append,List.length_cons,List.length_nil];omega
   have hop':h.op=0\/h.op=1\/h.op=2\/h.op=3\/h.op=4:=hop;clear hop;by_cases h01:h.op=0\/h.op=1
   ·have HRR:Hid (r=((ths.map Th.pc++[pc],sn++[pc]),decide (h.op≠0))):=lh (by
     rw[HST.out,if_neg (show ¬h.ins.op=2 from by show ¬h.op=2;omega),if_neg (show ¬h.ins.op=3 from by show ¬h.op=3;omega),if_neg (show ¬h.ins.op=4 from by show ¬h.op=4;omega)]
     rfl)
    rcases h01 with h0|h0
    ·exact padP
    ·exact padP
   ·have hn':(insL hs).length=hs.length:=insL_len hs;by_cases h2:h.op=2
    ·obtain⟨x,hx,hxl⟩:=hju (.inl h2);obtain⟨y,hy,hyl⟩:=hju2 h2;have hx':h.x=(x:Int):=hx;have hy':h.y=(y:Int):=hy;rw[h2] at z0;rw[hx'] at z1;have HC:=lh (HIH.out wx A c ths (sn++[pc]) x RA rc HX.out HAS.out hfs hxl HRX.out);have HI1:=lh (addP_inv (G:=insL hs) f (ths.map Th.pc,sn++[pc]) x (by rw[hn'];exact HAS.out));rw[hn'] at HI1;have HRR:Hid (r=if(addP (insL hs) f (ths.map Th.pc,sn++[pc]) x).2=true then addP (insL hs) f (addP (insL hs) f (ths.map Th.pc,sn++[pc]) x).1 y else addP (insL hs) f (ths.map Th.pc,sn++[pc]) x):=lh (by
      rw[HST.out,if_pos (show h.ins.op=2 from h2)];have e:h.ins.x.toNat=x:=by show h.x.toNat=x;omega
      have e2:h.ins.y.toNat=y:=by show h.y.toNat=y;omega
      rw[e,e2])
     obtain⟨r1,hr1⟩:∃r1,Hid (addP (insL hs) f (ths.map Th.pc,sn++[pc]) x=r1):=⟨_,lh rfl⟩;rw[hr1.out] at HC HRR HI1;obtain⟨⟨l1,sn1⟩,b1⟩:=r1;have hs1:(sn++[pc]).length<=sn1.length:=HI1.out.2;have hy9:=lh hy';clear HST hju hju2 hnx hsv hx hx' hy hy' hn' z2 z3 hop'
     go_upto_region 10 with(go_at_fn 211;refine HC.out.mono ?_;rintro e w7 ⟨rfl,A7,c7,ths7,hi7,hl7,ht7⟩)
     have BX7:=HX.out.blk ht7.kp HBX.out de de de de;have HR7:=lh (HX.out.reg ht7.kp HRX.out);have HT7:=lh (HT.out.trans ht7);have z27:w7.cell? ⟨gx,2,none⟩=some (.int .i64 h.y):=BX7.cell 2;rw[hy9.out] at z27;have ca7:w7.cell? ⟨p.g14,0,none⟩=some (.func (.func 211) #[] #[.pointer (some ⟨p.g13,0,none⟩),.pointer (some ⟨p.g4,0,none⟩),.pointer (some ⟨p.g10,0,none⟩),.pointer (some ⟨p.g14,0,none⟩)]):=hi7.b14.cell 0;clear BX7 ht7 ca z0 z1 HX HBX HRX HT HC
     cases b1 with
     | true=>
      have HRR2:Hid (r=addP (insL hs) f (l1,sn1) y):=lh (by rw[HRR.out,if_pos rfl]);have HI7:Hid (PkI p w7 A7 c7 ths7 sn1 (at_+1) false):=lh hi7;have HC2:=lh (HIH.out w7 A7 c7 ths7 sn1 y RA rc HI7.out (by rw[hl7];exact HI1.out.1) om hyl HR7.out);rw[show ths7.map Th.pc=l1 from hl7] at HC2;clear HRR HIH hi7 hl7
      go_wp2_with (go_at_fn 211;refine HC2.out.mono ?_;rintro e w9 ⟨rfl,A9,c9,ths9,hi9,hl9,ht9⟩;have HI9:=lh hi9;have HL9:=lh hl9;have HT9:=lh (HT7.out.trans ht9);clear hi9 hl9 ht9)
      exact bodyPost_end (v:=.tuple #[]) (by simp[results,Tryz.results211,go_sem]) rfl ⟨rfl,A9,c9,ths9,by rw[HRR2.out];exact HI9.out,by rw[HRR2.out];exact HL9.out,HT9.out⟩
     | false=>
      have HRR2:Hid (r=((l1,sn1),false)):=lh (by rw[HRR.out,if_neg si]);have HI7:Hid (PkI p w7 A7 c7 ths7 sn1 (at_+1) true):=lh hi7;have HL7:=lh hl7;have HC2:=fun(pc':Int)=>lh (padd_closed p w7 A7 c7 ths7 sn1 (at_+1) HI7.out pc' at_ fr (.slice RA p.n2 rc));clear HRR HIH hi7 hl7
      go_wp2_with (go_at_fn 211;refine(HC2 _).out.mono ?_;rintro e w9 ⟨rfl,x9⟩;have HX9:=lh x9;clear x9)
      exact bodyPost_end (v:=.tuple #[]) (by simp[results,Tryz.results211,go_sem]) rfl ⟨rfl,A7,c7,ths7,by rw[HRR2.out];exact HI7.out.ext HX9.out,by rw[HRR2.out];exact HL7.out,HT7.out.trans (PT.of_ext _ _ HX9.out)⟩
    ·by_cases h3:h.op=3
     ·obtain⟨x,hx,hxl⟩:=hju (.inr h3);have hx':h.x=(x:Int):=hx;rw[h3] at z0;rw[hx'] at z1;have HC:=lh (HIH.out wx A c ths (sn++[pc]) x RA rc HX.out HAS.out hfs hxl HRX.out);have HRR:Hid (r=addP (insL hs) f (ths.map Th.pc,sn++[pc]) x):=lh (by
       rw[HST.out,if_neg (show ¬h.ins.op=2 from h2),if_pos (show h.ins.op=3 from h3)];have e:h.ins.x.toNat=x:=by show h.x.toNat=x;omega
       rw[e])
      clear HST HIH hju hju2 hnx hsv hx hx' hn' z2 z3 hop' HBX HRX HX
      go_wp2_with (go_at_fn 211;refine HC.out.mono ?_;rintro e w9 ⟨rfl,A9,c9,ths9,hi9,hl9,ht9⟩;have HI9:=lh hi9;have HL9:=lh hl9;have HT9:=lh (HT.out.trans ht9);clear hi9 hl9 ht9)
      exact bodyPost_end (v:=.tuple #[]) (by simp[results,Tryz.results211,go_sem]) rfl ⟨rfl,A9,c9,ths9,by rw[HRR.out];exact HI9.out,by rw[HRR.out];exact HL9.out,HT9.out⟩
     ·have h4:h.op=4:=om;have hnl:=hnx (.inr h4);have hsv4:0<=h.n/\h.n<2*p.caps:=by
       rcases hsv with e|⟨e,_⟩|⟨e,_⟩|⟨e,_⟩|⟨_,e⟩|⟨e,_⟩
       ·exact absurd (show h.op=0 from e) om
       ·exact absurd (show h.op=1 from e) om
       ·exact absurd (show h.op=2 from e) om
       ·exact absurd (show h.op=3 from e) om
       ·exact e
       ·exact absurd (show h.op=5 from e) om
      obtain⟨N,hN⟩:∃N:Nat,h.n=(N:Int):=⟨h.n.toNat,om⟩;have hN2:N<p.n2:=om;rw[h4] at z0;rw[hN] at z3;have HRR:Hid (r=addP (insL hs) f (ths.map Th.pc,sn++[pc]) (pc+1)):=lh (by
       rw[HST.out,if_neg (show ¬h.ins.op=2 from h2),if_neg (show ¬h.ins.op=3 from h3),if_pos (show h.ins.op=4 from h4)])
      obtain⟨⟨xs,hxs,hxi⟩,hty⟩:=HRX.out;obtain⟨rb,ro,hRA,hxc⟩:=hxi.at_ (by rintro rfl;simp at hxs;omega);subst hRA;have hrc:=hxi.len;clear HST hju hju2 hnx hsv hsv4 hn' z1 z2 hop' hN;obtain⟨iI,jI0,jI1,jI2,jI3⟩:=info_parts infoInt;have HLD:=lh (fun(W:World) (x:Ext wx W)=>cells_take (N:=N) (fun i hi=>x.cell (hxc i hi)));have HIX:=lh hxi;have htl:((xs.take N).map (Value.int .i64)).length=N*1:=by simp;omega
      have hap8:p.n2<=100:=by have:=HG.out.cap9;omega
      have HBI:=lh (Blk.new wx 3 #[.int .i64 at_]);have HXA:=lh (Ext.alloc wx (.cells #[.int .i64 at_] 3))
      go_upto_region 15 with(at_builtin;refine wpList_append_grows _ rfl _ _ _ rfl 3 iI (.int .i64 0) 1 8 Tryz.underlying22 jI0 jI1 jI2 jI3 rfl om (some ⟨rb,ro,none⟩) N N ((xs.take N).map (Value.int .i64)) rfl si htl (HLD.out _ HXA.out) _ 1 1 [.int .i64 at_] rfl rfl (fun j u hu=>by obtain⟨hj,e⟩:=List.getElem?_eq_some_iff.1 hu;rw[Addr.add_lit,<-e];have h0:j=0:=(by simpa using hj);subst h0;exact HBI.out.cell 0) (by intro u hu;obtain rfl:=List.mem_singleton.1 hu;rfl) om um om ?_;intro v1 w1 ho1 hg1;obtain⟨A1,c1,rfl⟩:∃A1 c1,v1=.slice A1 (N+1) c1:=(by rcases ho1.2 with⟨e1,e2⟩|⟨g,cap,cur,e1,_⟩;(exact absurd e2 om);(exact⟨_,_,e1⟩)))
      have X1:=HXA.out.grown hg1 si;have HX1:=lh (HX.out.ext X1);obtain⟨b1,hb1⟩:∃b1,Hid (b1=(wx.alloc (.cells #[.int .i64 at_] 3)).heap.size/\wx.heap.size<=b1):=⟨_,lh ⟨rfl,HXA.out.size⟩⟩
      rw[<-hb1.out.1] at ho1;have HO1:Hid (OwnS w1 b1 3 1 A1 (N+1) c1 ((xs.take N).map (Value.int .i64)++[.int .i64 at_])):=lh ho1;have hbb:p.base<=wx.heap.size:=by have:=HX.out.lb.1;have:=HX.out.b10.lt;omega
      have hbb1:p.base<=b1:=Nat.le_trans hbb hb1.out.2;have hw1s:b1<=w1.heap.size:=by rw[hb1.out.1];exact hg1.size
      have B14:=HX1.out.b14;have BX1:=HBX.out.ext X1;have n14:p.g14∉pkL p A (A1.map (·.block)).toList:=HX1.out.nin B14 de de de de (fun e=>own_blk HO1.out B14 de (by simpa using e));have nx:gx∉pkL p A (A1.map (·.block)).toList:=HX1.out.nin BX1 de de de de (fun e=>own_blk HO1.out BX1 de (by simpa using e));have q0:=fun(w':World) (hk:Kp (pkL p A (A1.map (·.block)).toList) w1 w')=>hk.cell (X1.cell ca) n14;have q3:=fun(w':World) (hk:Kp (pkL p A (A1.map (·.block)).toList) w1 w')=>hk.cell (X1.cell z3) nx;have hw2:IntKind.i64.wrap ((N:Int)+1)=((N+1:Nat):Int):=wj;have hw3:IntKind.i64.wrap ((pc:Int)+1)=((pc+1:Nat):Int):=wj;have HXX1:=lh X1;have HIL1:=lh (hxi.ext X1);have hrcn:rc<=9223372036854775807:=hrc.2;have hn2r:p.n2<=rc:=by rw[<-hxs];exact hrc.1
      clear hg1 ho1 B14 BX1 n14 nx ca z3 z0 HBI HXA HLD HRX HBX hxc hty htl;refine Xr.start (pkL p A (A1.map (·.block)).toList) kr ?_;refine Xtk 0 ?_
      iterate 9(refine Xtn ?_)
      clear q0 q3;refine Xr.take 10 (some 104) (v:=.slice (dropI (some ⟨rb,ro,none⟩) rc (N+1)) ((p.n2-(N+1):Nat)) (rc-(N+1))) rfl rfl dK (by rfl) (fun w' hk=>by
       by_cases hca:rc=N+1
       ·have e1:dropI (some (⟨rb,ro,none⟩:Addr)) rc (N+1)=some ⟨rb,ro,none⟩:=by unfold dropI;rw[if_pos hca]
        rw[e1];go_simp
        all_goals(intro h';exact absurd h' om)
       ·have e1:dropI (some (⟨rb,ro,none⟩:Addr)) rc (N+1)=(some (⟨rb,ro,none⟩:Addr)).map (fun x=>x.add (N+1)):=by unfold dropI;rw[if_neg hca]
        rw[e1];go_simp
        all_goals(intro h';exact absurd h' om)) ?_
      refine ptm ?_;have hdl:((xs.drop (N+1)).map (Value.int .i64)).length=(p.n2-(N+1))*1:=by simp;omega
      refine Xsp 11 fun w4 hE4 hK4 K hKK=>?_;have HO4:=OwnS.ext HO1.out hE4;have HDI:=IL.dropN (HIL1.out.ext hE4) (k:=N+1) om;refine wp_app _ _ _ _ rfl b1 3 iI (.int .i64 0) 1 8 Tryz.underlying22 jI0 jI1 jI2 jI3 rfl om A1 (N+1) c1 _ rfl HO4 _ (p.n2-(N+1)) (rc-(N+1)) ((xs.drop (N+1)).map (Value.int .i64)) rfl hdl HDI.cells (ints_one _) um om (Nat.le_trans hw1s hE4.size) ?_;intro A2 c2 w5 ho5 hg5 hat5;have X5:Ext wx w5:=(HXX1.out.trans hE4).grown hg5 (fun i hi=>Nat.le_trans hb1.out.2 (OwnS.row HO4 i hi));refine hKK _ _ (WI_grown hg5 (fun i hi=>.inl (by simp[pkL,hi]))) (hK4.grownL hg5 (fun i hi=>.inl (by simp[pkL,hi]))) ?_;clear hKK;refine ptm ?_;have e5:N+1+(p.n2-(N+1))=p.n2:=om;rw[e5] at ho5 ⊢;have hrng:∀x∈xs.take N++[at_]++xs.drop (N+1),I64 x:=fun x hx=>by
       rcases List.mem_append.1 hx with hx|hx
       ·rcases List.mem_append.1 hx with hx|hx
        ·exact HIX.out.rng x (List.mem_of_mem_take hx)
        ·rw[List.mem_singleton.1 hx];unfold I64;omega
       ·exact HIX.out.rng x (List.mem_of_mem_drop hx)
      have hlen:(xs.take N++[at_]++xs.drop (N+1)).length=p.n2:=by simp only[List.length_append,List.length_take,List.length_drop,List.length_singleton];omega
      have HO5:Hid (OwnI w5 b1 3 A2 c2 (xs.take N++[at_]++xs.drop (N+1))):=lh (by
       unfold OwnI;rw[hlen]
       simpa using ho5)
      have HRG:=lh hrng;have HRL:=lh hlen;have HX5:=lh X5;clear ho5 hg5 hat5 hlen hrng HO4 HDI hE4 hK4;refine Xsp 12 fun w6 hE6 hK6 K hKK=>?_;have HO6:=OwnS.ext HO5.out hE6;have hr6:RegOk w6 p.base p.n2 A2 c2:=⟨⟨_,HRL.out,IL.of_own HO6 HRG.out⟩,fun b hb=>⟨Nat.le_trans hbb1 (OwnS.row HO6 b hb),by obtain⟨_,cur,h2⟩:=OwnS.blt HO6 hb;exact⟨cur,h2⟩⟩⟩;go_simp;refine(HIH.out w6 A c ths (sn++[pc]) (pc+1) A2 c2 (HX.out.ext (HX5.out.trans hE6)) HAS.out hfs hnl hr6).mono ?_;rintro e w7 ⟨rfl,A7,c7,ths7,hi7,hl7,ht7⟩;refine hKK _ _ (WI_kp ht7.kp PQ.mem) (hK6.kpP ht7.kp PQ.mem) ?_;clear hKK;refine ptm ?_;refine Xdn fun w8 hE8 hK8=>?_;have HI8:=lh (hi7.ext hE8);have HL8:=lh hl7;have HT8:=lh ((HT.out.trans (PT.of_ext p A (HX5.out.trans hE6))).trans (ht7.trans (PT.of_ext p A7 hE8)));clear hE6 hK6 hE8 hK8 hi7 hl7 ht7 hr6 HO6
      go_wp2_with fail
      exact bodyPost_end (v:=.tuple #[]) (by simp[results,Tryz.results211,go_sem]) rfl ⟨rfl,A7,c7,ths7,by rw[HRR.out];exact HI8.out,by rw[HRR.out];exact HL8.out,HT8.out⟩
end
end Go.Proofs.YtmgpefenkilffaaGreat
