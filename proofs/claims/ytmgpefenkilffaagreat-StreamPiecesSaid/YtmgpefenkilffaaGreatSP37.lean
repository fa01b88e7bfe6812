/- Texts of this proof: Y18 Y19 U3 Y20 Y21. -/
import Derived.Test.YtmgpefenkilffaaGreatSP35
import Derived.DataReads
import Derived.OpenShut
set_option linter.all false
set_option maxRecDepth 100000
set_option maxHeartbeats 16000000
namespace Go.Proofs.YtmgpefenkilffaaGreat
section
open Go.RowKit
attribute [local go_sem ↓] Go.wp_at_zero Go.wp_at_succ
structure AddI (n:Nat)(s:List Nat×List Nat):Prop where
 ok:SeenOk n s.2
 len:s.1.length<=s.2.length
 lt:∀p∈s.1,p<n
theorem AddI.see {n:Nat}{s:List Nat×List Nat}(h:AddI n s){pc:Nat}(hp:pc<n)(hn:pc∉s.2):AddI n (s.1,s.2++[pc]):=
 ⟨h.ok.snoc hp hn,by have:=h.len;simp only[List.length_append,List.length_cons,List.length_nil];omega,h.lt⟩
theorem AddI.put {n:Nat}{s:List Nat×List Nat}(h:AddI n s){pc:Nat}(hp:pc<n)(hn:pc∉s.2):AddI n (s.1++[pc],s.2++[pc]):=
 ⟨h.ok.snoc hp hn,by have:=h.len;simp only[List.length_append,List.length_cons,List.length_nil];omega,fun p hp2=>by
  rcases List.mem_append.1 hp2 with h1|h1
  ·exact h.lt p h1
  ·have:p=pc:=by simpa using h1
   omega⟩
theorem addP_inv {G:List Ins}:∀f s pc,AddI G.length s->AddI G.length (addP G f s pc).1/\s.2.length<=(addP G f s pc).1.2.length
 | 0,s,pc,h=>⟨h,Nat.le_refl _⟩
 | f+1,s,pc,h=>by
  unfold addP
  split
  ·exact⟨h,Nat.le_refl _⟩
  ·rename_i hn
   split
   ·exact⟨h,Nat.le_refl _⟩
   ·rename_i i hi
    obtain⟨hlt,_⟩:=List.getElem?_eq_some_iff.1 hi;have h1:=h.see hlt hn;have hl:s.2.length<=(s.2++[pc]).length:=by simp
    split
    ·have h2:=addP_inv f (s.1,s.2++[pc]) i.x.toNat h1
     split
     ·have h3:=addP_inv f _ i.y.toNat h2.1;exact⟨h3.1,Nat.le_trans hl (Nat.le_trans h2.2 h3.2)⟩
     ·exact⟨h2.1,Nat.le_trans hl h2.2⟩
    ·split
     ·have h2:=addP_inv f (s.1,s.2++[pc]) i.x.toNat h1;exact⟨h2.1,Nat.le_trans hl h2.2⟩
     ·split
      ·have h2:=addP_inv f (s.1,s.2++[pc]) (pc+1) h1;exact⟨h2.1,Nat.le_trans hl h2.2⟩
      ·exact⟨h.put hlt hn,hl⟩
structure LsP where
 base:Nat
 gB:Nat
 gl:Nat
 ga:Nat
 gb:Nat
 gM:Nat
def LsK (p:LsP)(w:World)(b:Nat):Prop:=b=p.gM\/(p.base<=b/\(b=p.gl\/∃cur,w.heap[b]? = some (.cells cur 3 (0,0))))
theorem addP_old {G:List Ins}{f pc:Nat}{s:List Nat×List Nat}(h:pc∈s.2):addP G (f+1) s pc=(s,true):=by
 unfold addP;rw[if_pos h]
theorem addP_step {G:List Ins}{f pc:Nat}{s:List Nat×List Nat}{i:Ins}(h:pc∉s.2)(hi:G[pc]? = some i):addP G (f+1) s pc =
 if i.op=2 then
  if(addP G f (s.1,s.2++[pc]) i.x.toNat).2=true then addP G f (addP G f (s.1,s.2++[pc]) i.x.toNat).1 i.y.toNat
  else addP G f (s.1,s.2++[pc]) i.x.toNat
 else if i.op=3 then addP G f (s.1,s.2++[pc]) i.x.toNat
 else if i.op=4 then addP G f (s.1,s.2++[pc]) (pc+1)
 else((s.1++[pc],s.2++[pc]),decide (i.op≠0)):=by
 conv=>lhs;unfold addP
 rw[if_neg h,hi]
def TyI (w:World)(A:Option Addr):Prop:=∀b,A.map (·.block)=some b->∃cur,w.heap[b]? = some (.cells cur 3 (0,0))
theorem TyI.kp {w w':World}{A:Option Addr}{p:Nat->Prop}(h:TyI w A)(k:KpP p w w')(hp:∀b,p b->∀cur,w.heap[b]?≠some (.cells cur 3 (0,0))):TyI w' A:=fun b hb=>by
 obtain⟨cur,hh⟩:=h b hb;exact⟨cur,(k.block b (Array.getElem?_eq_some_iff.1 hh).1 (fun hq=>hp b hq cur hh)).trans hh⟩
theorem IL.kpT {w w':World}{A:Option Addr}{c:Nat}{xs:List Int}{p:Nat->Prop}(h:IL w A c xs)(t:TyI w A)(k:KpP p w w')(hp:∀b,p b->∀cur,w.heap[b]?≠some (.cells cur 3 (0,0))):IL w' A c xs:=
 IL.kp h k (fun _ b hb hq=>by
  obtain⟨cur,hh⟩:=t b hb;exact hp b hq cur hh)
theorem listP_done {G:List Ins}{N:Nat}{fs:List Nat}{k:Nat}{s:List Nat×List Nat}(hk:k<fs.length):listP G N (fs.drop k) s=if(addP G N s fs[k]).2=true then listP G N (fs.drop (k+1)) (addP G N s fs[k]).1 else(addP G N s fs[k]).1:=by
 rw[List.drop_eq_getElem_cons hk,listP]
structure Cd where
 A:Option Addr
 c:Nat
 hs:List Hin
 rn:Bool
 cA:Option Addr
 cc:Nat
 cuts:List Int
 lA:Option Addr
 lc:Nat
 ls:List Bool
structure CdAt (w:World)(gc:Nat)(cd:Cd):Prop where
 blk:Blk w gc 136 #[.slice cd.A cd.hs.length cd.c,.bool cd.rn,.slice cd.cA cd.cuts.length cd.cc,.slice cd.lA cd.ls.length cd.lc]
 pl:PL w cd.A cd.c cd.hs
 il:IL w cd.cA cd.cc cd.cuts
 ib:IB w cd.lA cd.lc cd.ls
def stmC (gc gS gM n:Nat)(mark rd:Int)(fv:Value):Array Value:=#[.pointer (some ⟨gc,0,none⟩),.map (some gS),.slice (some ⟨gM,0,none⟩) n n,.int .i64 mark,.int .i64 rd,fv]
structure RchI (wr w0:World)(p:LsP)(gc gS n:Nat)(mark rd:Int)(fv:Value)(s:List Nat×List Nat):Prop where
 kp:KpP (fun b=>b=p.gb\/b=p.gM) w0 wr
 bB:Blk wr p.gB 120 #[.pointer (some ⟨p.gb,0,none⟩)]
 bA:Blk wr p.ga 240 #[.func (.func 202) #[] #[.pointer (some ⟨p.gB,0,none⟩),.pointer (some ⟨p.gl,0,none⟩),.pointer (some ⟨p.ga,0,none⟩)]]
 bl:∃A c,Blk wr p.gl 22 #[.slice A s.1.length c]/\OwnS wr p.base 3 1 A s.1.length c ((natsI s.1).map (Value.int .i64))
 bb:Blk wr p.gb 134 (stmC gc gS p.gM n mark rd fv)
 bm:∃ms,Blk wr p.gM 3 (iInts ms)/\ms.length=n/\∀i,i<n->((ms.getD i 0=mark<->i∈s.2)/\ms.getD i 0<=mark)
 lM:p.gM<p.base
 l0:w0.heap.size<=p.base
 ll:p.base<=p.gl
theorem RchI.extW {wr w' w0:World}{p:LsP}{gc gS n:Nat}{mark rd:Int}{fv:Value}{s:List Nat×List Nat}(h:RchI wr w0 p gc gS n mark rd fv s)(x:Ext wr w'):RchI w' w0 p gc gS n mark rd fv s:=by
 obtain⟨h1,h2,h3,⟨A,c,h4,h5⟩,h6,⟨ms,h7,h8⟩,h9,h10,h11⟩:=h;exact⟨h1.trans (KpP.of_ext x),h2.ext x,h3.ext x,⟨A,c,h4.ext x,OwnS.ext h5 x⟩,h6.ext x,⟨ms,h7.ext x,h8⟩,h9,h10,h11⟩
theorem RchI.mark {wr w0:World}{p:LsP}{gc gS n:Nat}{mark rd:Int}{fv:Value}{s:List Nat×List Nat}(h:RchI wr w0 p gc gS n mark rd fv s){pc:Nat}(hp:pc<n) :
 RchI (wr.setCell ⟨p.gM,pc,none⟩ (.int .i64 mark)) w0 p gc gS n mark rd fv (s.1,s.2++[pc]):=by
 obtain⟨h1,h2,h3,⟨A,c,h4,h5⟩,h6,⟨ms,h7,h8,h8'⟩,h9,h10,h11⟩:=h;have d1:=blk_blk h2 h7 de;have d2:=blk_blk h3 h7 de;have d3:=blk_blk h4 h7 de;have d4:=blk_blk h6 h7 de;refine⟨KpP.set (x:=⟨p.gM,pc,none⟩) h1 (.inl (.inr rfl)) _,h2.far d1 _,h3.far d2 _,⟨A,c,h4.far d3 _,OwnS.far h5 (fun e=>?_) _⟩,h6.far d4 _,⟨ms.set pc mark,?_,by rw[List.length_set];exact h8,fun i hi=>?_⟩,h9,h10,h11⟩
 ·have:=OwnS.row h5 _ e
  simp only at this;omega
 ·rw[<-iInts_set];exact h7.set pc _
 ·have hi2:i<ms.length:=om;have h12:=h8' i hi;simp only[List.getD_eq_getElem?_getD] at h12;simp only[List.getD_eq_getElem?_getD,List.getElem?_set,List.mem_append,List.mem_singleton];by_cases e:pc=i
  ·subst e;simp[hi2]
  ·rw[if_neg e];refine⟨⟨fun h13=>.inl (h12.1.1 h13),?_⟩,h12.2⟩;rintro(h13|h13)
   ·exact h12.1.2 h13
   ·exact absurd h13.symm e
def RsK (p:LsP)(w:World)(b:Nat):Prop:=b=p.gM\/(p.base<=b/\(b=p.gl\/∃cur,w.heap[b]? = some (.cells cur 3 (0,0))))
theorem RsK.chain {p:LsP}{w w1 w2:World}(h:KpP (RsK p w) w w1)(k:KpP (RsK p w1) w1 w2):KpP (RsK p w) w w2:=
 ⟨k.os.trans h.os,k.tape.trans h.tape,k.output.trans h.output,Nat.le_trans h.size k.size,fun i hi hn=>by
  have h1:=h.block i hi hn;refine(k.block i (Nat.lt_of_lt_of_le hi h.size) (fun hq=>hn ?_)).trans h1;rcases hq with hq|⟨h2,hq|⟨cur,hq⟩⟩
  ·exact .inl hq
  ·exact .inr ⟨h2,.inl hq⟩
  ·exact .inr ⟨h2,.inr ⟨cur,h1▸hq⟩⟩⟩
theorem RsK.blk {p:LsP}{w w1:World}(h:KpP (RsK p w) w w1){g T:Nat}{cs:Array Value}(hb:Blk w g T cs)(hM:g≠p.gM)(hl:g≠p.gl)(hT:T≠3):Blk w1 g T cs:=
 (h.block g hb.lt (fun hq=>by
  rcases hq with hq|⟨_,hq|⟨cur,hq⟩⟩
  ·exact hM hq
  ·exact hl hq
  ·unfold Blk at hb;rw[hb] at hq;injection hq with hq;injection hq with _ h2
   exact hT h2)).trans hb
def RetAdd3 (w0:World)(p:LsP)(gc gS n:Nat)(mark rd:Int)(fv:Value)(r:(List Nat×List Nat)×Bool)(w:World)(e:Ending)(w':World):Prop:=
 e=.returned (.bool r.2)/\RchI w' w0 p gc gS n mark rd fv r.1/\KpP (RsK p w) w w'
theorem egReach:∀args w,(callFunc 202 args).run Tryz.prog w=.ok (.enter 202 args) w:=enters_of Tryz.func202 kr rfl
theorem rsi_put {wx w8 w0:World}{base gB gl ga gb gM:Nat}{gc gS n:Nat}{mark rd:Int}{fv:Value}{s:List Nat×List Nat}{pc:Nat}{LA A8:Option Addr}{lc c8:Nat}
 (h:RchI wx w0 ⟨base,gB,gl,ga,gb,gM⟩ gc gS n mark rd fv (s.1,s.2++[pc])) (hg:(wx.alloc (.cells #[.int .i64 pc] 3)).grownBy w8 (LA.map (·.block)))
 (ho:OwnS w8 base 3 1 A8 (s.1.length+1) c8 ((natsI s.1).map (Value.int .i64)++[.int .i64 pc])) (ol:OwnS wx base 3 1 LA s.1.length lc ((natsI s.1).map (Value.int .i64))) :
 RchI (w8.setCell ⟨gl,0,none⟩ (.slice A8 (s.1.length+1) c8)) w0 ⟨base,gB,gl,ga,gb,gM⟩ gc gS n mark rd fv (s.1++[pc],s.2++[pc]):=by
 obtain⟨h1,h2,h3,⟨A,c,h4,h5⟩,h6,⟨ms,h7,h8,h8'⟩,h9,h10,h11⟩:=h;have X:=Ext.alloc wx (.cells #[.int .i64 pc] 3);have k:=KpP.of_grown hg;have olx:=OwnS.ext ol X;have hM:LA.map (·.block)≠some gM:=fun e=>by
  have:=OwnS.row olx _ e
  simp only at h9;omega
 have b2:=k.blk (h2.ext X) (own_blk olx (h2.ext X) de);have b3:=k.blk (h3.ext X) (own_blk olx (h3.ext X) de);have b4:=k.blk (h4.ext X) (own_blk olx (h4.ext X) de);have b6:=k.blk (h6.ext X) (own_blk olx (h6.ext X) de);have b7:=k.blk (h7.ext X) hM;have d2:=blk_blk b2 b4 de;have d3:=blk_blk b3 b4 de;have d6:=blk_blk b6 b4 de;have d7:=blk_blk b7 b4 de;have x8:KpP (fun b=>b=gb\/b=gM) w0 w8:=(h1.trans (KpP.of_ext X)).thenGrown hg (fun i hi=>by
  have:=OwnS.row olx _ hi
  simp only at h9 h10 h11;omega)
 refine⟨KpP.set (x:=⟨gl,0,none⟩) x8 (.inr (by simp only at h9 h10 h11;simp only;omega)) _,b2.far d2 _,b3.far d3 _,⟨A8,c8,?_,?_⟩,b6.far d6 _,⟨ms,b7.far d7 _,h8,h8'⟩,h9,h10,h11⟩
 ·have b:=b4.set 0 (.slice A8 (s.1.length+1) c8)
  simpa using b
 ·have e:(natsI (s.1++[pc])).map (Value.int .i64)=(natsI s.1).map (Value.int .i64)++[.int .i64 pc]:=by simp[natsI]
  have e2:(s.1++[pc]).length=s.1.length+1:=by simp
  simp only[e,e2];exact OwnS.far ho (fun e=>by
   have:=own_blk ho b4 de;exact this e) _
theorem rsk_put {p:LsP}{wa w8:World}{LA:Option Addr}{n lc:Nat}{xs:List Value}(ll:p.base<=p.gl)(hg:wa.grownBy w8 (LA.map (·.block)))(ol:OwnS wa p.base 3 1 LA n lc xs)(v:Value):KpP (RsK p wa) wa (w8.setCell ⟨p.gl,0,none⟩ v):=by
 refine KpP.set (x:=⟨p.gl,0,none⟩) (KpP.mono (KpP.of_grown hg) (fun i hi=>?_)) (.inl (.inr ⟨ll,.inl rfl⟩)) v;obtain⟨_,cur,hh⟩:=OwnS.blt ol hi;exact .inr ⟨OwnS.row ol _ hi,.inr ⟨cur,hh⟩⟩
theorem U3z1 {P:Prop} (h:P:=by
 obtain⟨LA,lc,bl,ol⟩:=hIx.out.bl;have bl':Blk wx gl 22 #[.slice LA s.1.length lc]:=bl;have ol':OwnS wx base 3 1 LA s.1.length lc ((natsI s.1).map (Value.int .i64)):=ol;have hsl:s.1.length<=hs.length:=by have:=HAP.out.len;have:=HAP.out.ok.len;simp only[List.length_append,List.length_cons,List.length_nil] at *;omega
 have hbs:base<=wx.heap.size:=by have:=bl'.lt;omega
 have HX8:=lh hIx.out;have hl0:wx.cell? ⟨gl,0,none⟩=some (.slice LA s.1.length lc):=bl'.cell 0;obtain⟨iI,jI0,jI1,jI2,jI3⟩:=info_parts infoI1;have EP:=Ext.alloc wx (.cells #[.int .i64 pc] 3);have HBL:=fun(w8:World) (hg:(wx.alloc (.cells #[.int .i64 pc] 3)).grownBy w8 (LA.map (·.block)))=>(KpP.of_grown hg).blk (bl'.ext EP) (own_blk (OwnS.ext ol' EP) (bl'.ext EP) de);clear HST HIH hju hju2 hnx bl ol z1 hIx
 go_wp2_with ((at_builtin;refine wpList_app _ rfl _ _ _ rfl base 3 iI (.int .i64 0) 1 8 Tryz.underlying22 jI0 jI1 jI2 jI3 rfl om LA s.1.length lc ((natsI s.1).map (Value.int .i64)) rfl (OwnS.ext ol' (Ext.alloc _ _)) _ 1 1 [.int .i64 pc] rfl rfl (blk_cells (Blk.new _ _ _)) (by intro u hu;simp only[List.mem_cons,List.not_mem_nil,or_false] at hu;rcases hu with rfl;rfl) um om (Nat.le_trans hbs (Ext.alloc _ _).size) ?_;intro A8 c8 w8 ho8 hg8 hat8;have cl8:=(HBL w8 hg8).cell 0;have fl8:=(HBL w8 hg8).frz 0))
 have K8:=(Kx.trans (KpP.of_ext (Ext.alloc wx (.cells #[.int .i64 pc] 3))));have h8:=rsi_put HX8.out hg8 ho8 ol';have KK:=rsk_put (p:=⟨base,gB,gl,ga,gb,gM⟩) ll hg8 (OwnS.ext ol' (Ext.alloc wx (.cells #[.int .i64 pc] 3)));go_ret
 exact⟨by rw[HR.out];rfl,by rw[HR.out];exact h8,RsK.chain K8 (KK _)⟩):P:=h
theorem U3z2 {P:Prop} (h:P:=by
 go_wp2_with (go_at_fn 202;refine HC.out.mono ?_;rintro e w7 ⟨rfl,h7,k7⟩)
 go_ret
 exact⟨by rw[HR.out];rfl,by rw[HR.out];exact h7,RsK.chain Kx k7⟩):P:=h
theorem reachC_any (w0:World)(base gB gl ga gb gM gc gS:Nat)(cd:Cd)(runes:Bool)(caps:Int)(hG:GOk runes caps (insL cd.hs))(hC:∀w',KpP (fun b=>b=gb\/b=gM) w0 w'->CdAt w' gc cd)(mark rd:Int)(fv:Value) :
 ∀(f:Nat) (w:World) (s:List Nat×List Nat) (pc:Nat),RchI w w0 ⟨base,gB,gl,ga,gb,gM⟩ gc gS cd.hs.length mark rd fv s->AddI cd.hs.length s->cd.hs.length<f+s.2.length->pc<cd.hs.length->
 Calls Tryz.prog 202 #[.int .i64 pc,.pointer (some ⟨gB,0,none⟩),.pointer (some ⟨gl,0,none⟩),.pointer (some ⟨ga,0,none⟩)] w (RetAdd3 w0 ⟨base,gB,gl,ga,gb,gM⟩ gc gS cd.hs.length mark rd fv (addP (insL cd.hs) f s pc) w):=by
 have hP:∀w',KpP (fun b=>b=gb\/b=gM) w0 w'->PL w' cd.A cd.c cd.hs:=fun w' k=>(hC w' k).pl;have hCb:∀w',KpP (fun b=>b=gb\/b=gM) w0 w'->w'.cell? ⟨gc,0,none⟩=some (.slice cd.A cd.hs.length cd.c):=fun w' k=>(hC w' k).blk.cell 0;have hPl:=(hP w0 (KpP.refl _ _)).len;clear hC;obtain⟨hs,gA,ic,hE⟩:∃hs A c,cd.hs=hs/\cd.A=A/\cd.c=c:=⟨_,_,_,rfl,rfl,rfl⟩;obtain⟨e1,e2,e3⟩:=hE;rw[e1] at hPl hG hCb hP ⊢;rw[e2] at hCb hP;rw[e3] at hPl hCb hP;clear e1 e2 e3;intro f;induction f with
 | zero=>
  intro w s pc hI hA hf hp;have:=hA.ok.len;omega
 | succ f ih=>
  intro w s pc hI hA hf hp;have eg:=egReach;obtain⟨x0,bB,bA,⟨A,c,bl,ol⟩,bb,⟨ms,bm,hml,hmk⟩,lM,l0,ll⟩:=hI
  simp only at bB bA bl ol bb bm lM l0 ll
  have hI:=lh (show RchI w w0 ⟨base,gB,gl,ga,gb,gM⟩ gc gS hs.length mark rd fv s from⟨x0,bB,bA,⟨A,c,bl,ol⟩,bb,⟨ms,bm,hml,hmk⟩,lM,l0,ll⟩);have hgl:=hPl;have hn8:=hG.len;rw[insL_len] at hn8;have hpI:(pc:Int)<hs.length:=om;have hpm:pc<ms.length:=om;have cB:w.cell? ⟨gB,0,none⟩=some (.pointer (some ⟨gb,0,none⟩)):=bB.cell 0;have cM:w.cell? ⟨gb,2,none⟩=some (.slice (some ⟨gM,0,none⟩) hs.length hs.length):=bb.cell 2;have ck:w.cell? ⟨gb,3,none⟩=some (.int .i64 mark):=bb.cell 3;have cm:w.cell? ⟨gM,pc,none⟩=some (.int .i64 ms[pc]):=by rw[bm.cell];simp[iInts,hpm]
  have hmp:=(hmk pc hp).1;have hgd:ms.getD pc 0=ms[pc]:=by simp[List.getD_eq_getElem?_getD,hpm]
  rw[hgd] at hmp;clear hgd hmk hml;by_cases hm:pc∈s.2
  ·have hx:=hmp.2 hm;rw[hx] at cm;rw[addP_old hm];have j1:=kc0 cB;have j2:=kc0 cM;have j3:=kc0 ck;have j4:=kc0 cm;clear hx hmp hm hf hA bB bA bl ol bb bm ih;go_enter Tryz.func202,Tryz.ntmps202
   go_upto_region 1 with fail
   refine Xr.start [] kr ?_;refine Xtk 0 ?_
   iterate 11(refine Xtn ?_)
   refine Xdn fun w4 hE4 hK4=>?_;clear j1 j2 j3 j4
   go_wp2_with fail
   go_ret
   exact⟨rfl,hI.out.extW hE4,KpP.of_ext hE4⟩
  ·have hx:(ms[pc] == mark)=false:=by
    rw[beq_eq_false_iff_ne];exact fun e=>hm (hmp.1 e)
   have hins:=insL_get hp;have HST:=lh (addP_step (f:=f) hm hins);have HAS:=lh (hA.see hp hm);have HAP:=lh (hA.put hp hm);obtain⟨r,hr⟩:∃r,Hid (addP (insL hs) (f+1) s pc=r):=⟨_,lh rfl⟩;rw[hr.out] at HST ⊢;have nB:=blk_blk bB bm de;have nb:=blk_blk bb bm de;generalize ms[pc]=mx at *;clear hmp;have j1:=kc0 cB;have j2:=kc0 cM;have j3:=kc0 ck;have j4:=kc0 cm;have HIH:=lh ih;have HG:=lh hG;have HPP:=lh hP;have HCB:=lh hCb;clear ih hG hP hCb hPl;go_enter Tryz.func202,Tryz.ntmps202
   go_upto_region 1 with fail
   refine Xr.start [] kr ?_;refine Xtk 0 ?_
   iterate 11(refine Xtn ?_)
   refine Xdn fun w4 hE4 hK4=>?_;clear j1 j2 j3 j4;have k1:=fun(w':World) (h:Kp [gM] w4 w')=>h.cell (hE4.cell cB) (by simpa using nB);have k2:=fun(w':World) (h:Kp [gM] w4 w')=>h.cell (hE4.cell cM) (by simpa using nb);have k3:=fun(w':World) (h:Kp [gM] w4 w')=>h.cell (hE4.cell ck) (by simpa using nb)
   go_upto_region 3 with fail
   refine Xr.start [gM] kr ?_;refine Xtk 0 ?_
   iterate 9(refine Xtn ?_)
   refine Xsp 10 fun w5 hE5 hK5 K hKK=>?_;have c5:=(hE4.trans hE5).cell cm;have f5:=(bm.ext (hE4.trans hE5)).frz pc;go_simp;refine hKK _ _ (WI_setL (WI_refl _ _ _) List.mem_cons_self _ _) (hK5.setL List.mem_cons_self _ _) ?_;clear hKK;refine ptm ?_;refine Xdn fun w6 hE6 hK6=>?_;have hI6:=lh (((hI.out.extW (hE4.trans hE5)).mark hp).extW hE6);have K6:KpP (RsK ⟨base,gB,gl,ga,gb,gM⟩ w) w w6:=(KpP.set (x:=⟨gM,pc,none⟩) (KpP.of_ext (hE4.trans hE5)) (.inl (.inl rfl)) (.int .i64 mark)).trans (KpP.of_ext hE6);clear k1 k2 k3 c5 f5 hE4 hK4 hE5 hK5 hE6 hK6 cB cM ck cm bB bA bl ol bb bm hx;have cB:w6.cell? ⟨gB,0,none⟩=some (.pointer (some ⟨gb,0,none⟩)):=hI6.out.bB.cell 0;have c0b:w6.cell? ⟨gb,0,none⟩=some (.pointer (some ⟨gc,0,none⟩)):=hI6.out.bb.cell 0;have c0c:w6.cell? ⟨gc,0,none⟩=some (.slice gA hs.length ic):=HCB.out _ hI6.out.kp;obtain⟨pb,po,hgA,c0,c1,c2,c3,c4⟩:=(HPP.out _ hI6.out.kp).get hp;have hgA':=hgA;subst hgA';obtain⟨h,hh⟩:∃h,Hid (hs[pc]=h):=⟨_,lh rfl⟩;rw[hh.out] at c0 c1 c2 c3 c4 HST;have BX:=Blk.new w6 129 #[.int .i64 h.op,.int .i64 h.x,.int .i64 h.y,.int .i64 h.n,.slice h.A h.l.length h.c];have EX:=Ext.alloc w6 (.cells #[.int .i64 h.op,.int .i64 h.x,.int .i64 h.y,.int .i64 h.n,.slice h.A h.l.length h.c] 129)
   go_upto_region 5 with fail
   obtain⟨gx,hgx⟩:∃gx,gx=w6.heap.size:=⟨_,rfl⟩
   rw[<-hgx] at BX ⊢;generalize w6.alloc (.cells #[.int .i64 h.op,.int .i64 h.x,.int .i64 h.y,.int .i64 h.n,.slice h.A h.l.length h.c] 129)=wx at *;have hIx:=lh (hI6.out.extW EX);have Kx:=K6.trans (KpP.of_ext EX);have hMx:gx≠gM:=by
    obtain⟨ms,b,_⟩:=hIx.out.bm;exact blk_blk BX b de
   have hlx:gx≠gl:=by
    obtain⟨A,c,b,_⟩:=hIx.out.bl;exact blk_blk BX b de
   have z0:wx.cell? ⟨gx,0,none⟩=some (.int .i64 h.op):=BX.cell 0;have z1:wx.cell? ⟨gx,1,none⟩=some (.int .i64 h.x):=BX.cell 1;have hpG:pc<(insL hs).length:=by rw[insL_len];exact hp
   have hgi:(insL hs)[pc]=h.ins:=by rw[insL_getElem,hh.out]
   have hop:=HG.out.op hpG;have hnx:=HG.out.next hpG;have hju:=HG.out.jump hpG;have hju2:=HG.out.jump2 hpG;rw[hgi] at hop hnx hju hju2;rw[insL_len] at hnx hju hju2;have ca:wx.cell? ⟨ga,0,none⟩=some (.func (.func 202) #[] #[.pointer (some ⟨gB,0,none⟩),.pointer (some ⟨gl,0,none⟩),.pointer (some ⟨ga,0,none⟩)]):=hIx.out.bA.cell 0;clear hgi hpG cB c0b c0c c0 c1 c2 c3 c4 hI6 K6 hgx hI;have hfs:hs.length<f+(s.2++[pc]).length:=by simp only[List.length_append,List.length_cons,List.length_nil];omega
   have hop':h.op=0\/h.op=1\/h.op=2\/h.op=3\/h.op=4:=hop;clear hop;by_cases h0:h.op=0
   ·skip
    rw[h0] at z0;have HR:Hid (r=((s.1++[pc],s.2++[pc]),false)):=lh (by
     rw[HST.out,if_neg (show ¬h.ins.op=2 from by show ¬h.op=2;omega),if_neg (show ¬h.ins.op=3 from by show ¬h.op=3;omega),if_neg (show ¬h.ins.op=4 from by show ¬h.op=4;omega)];have e:decide (h.ins.op≠0)=false:=by
      show decide (h.op≠0)=false
      rw[h0];rfl
     rw[e])
    exact U3z1
   ·by_cases h1:h.op=1
    ·skip
     rw[h1] at z0;have HR:Hid (r=((s.1++[pc],s.2++[pc]),true)):=lh (by
      rw[HST.out,if_neg (show ¬h.ins.op=2 from by show ¬h.op=2;omega),if_neg (show ¬h.ins.op=3 from by show ¬h.op=3;omega),if_neg (show ¬h.ins.op=4 from by show ¬h.op=4;omega)];have e:decide (h.ins.op≠0)=true:=by
       show decide (h.op≠0)=true
       rw[h1];rfl
      rw[e])
     exact U3z1
    ·by_cases h2:h.op=2
     ·skip
      obtain⟨x,hx,hxl⟩:=hju (.inl h2);obtain⟨y,hy,hyl⟩:=hju2 h2;have hx':h.x=(x:Int):=hx;have hy':h.y=(y:Int):=hy;have z2:wx.cell? ⟨gx,2,none⟩=some (.int .i64 h.y):=BX.cell 2;rw[h2] at z0;rw[hx'] at z1;rw[hy'] at z2;have HC:=lh (HIH.out wx (s.1,s.2++[pc]) x hIx.out HAS.out hfs hxl);have hn':(insL hs).length=hs.length:=insL_len hs;have HI1:=lh (addP_inv (G:=insL hs) f (s.1,s.2++[pc]) x (by rw[hn'];exact HAS.out));rw[hn'] at HI1;have HR:Hid (r=if(addP (insL hs) f (s.1,s.2++[pc]) x).2=true then addP (insL hs) f (addP (insL hs) f (s.1,s.2++[pc]) x).1 y else addP (insL hs) f (s.1,s.2++[pc]) x):=lh (by
       rw[HST.out,if_pos (show h.ins.op=2 from h2)];have e:h.ins.x.toNat=x:=by show h.x.toNat=x;omega
       have e2:h.ins.y.toNat=y:=by show h.y.toNat=y;omega
       rw[e,e2])
      obtain⟨r1,hr1⟩:∃r1,Hid (addP (insL hs) f (s.1,s.2++[pc]) x=r1):=⟨_,lh rfl⟩;rw[hr1.out] at HC HR HI1;obtain⟨s1,b1⟩:=r1;have hs1:(s.2++[pc]).length<=s1.2.length:=HI1.out.2;have hy9:=lh hy';clear HST hju hju2 hnx hx hx' hy hy' hn';by_cases hb:b1=true
      ·subst hb;have HR2:Hid (r=addP (insL hs) f s1 y):=lh (by rw[HR.out,if_pos rfl]);have HC2:=fun(w':World) (hI:RchI w' w0 ⟨base,gB,gl,ga,gb,gM⟩ gc gS hs.length mark rd fv s1)=>lh (HIH.out w' s1 y hI HI1.out.1 om hyl);clear HR HIH
       go_upto_region 15 with fail
       go_wp2_with fail
       refine HC.out.mono ?_;rintro e w7 ⟨rfl,h7,k7⟩;have BX7:=RsK.blk k7 BX hMx hlx de;have z27:w7.cell? ⟨gx,2,none⟩=some (.int .i64 y):=by rw[<-hy9.out];exact BX7.cell 2
       have ca7:w7.cell? ⟨ga,0,none⟩=some (.func (.func 202) #[] #[.pointer (some ⟨gB,0,none⟩),.pointer (some ⟨gl,0,none⟩),.pointer (some ⟨ga,0,none⟩)]):=h7.bA.cell 0;have HH7:=lh h7;have HK7:=lh k7;clear BX7 BX z0 z1 z2 ca h7 k7
       go_wp2_with fail
       refine(HC2 _ HH7.out).out.mono ?_;rintro e w9 ⟨rfl,h9,k9⟩;have h7:=HH7.out;have k7:=HK7.out
       go_wp2_with fail
       go_ret
       exact⟨by rw[HR2.out];rfl,by rw[HR2.out];exact h9,RsK.chain Kx (RsK.chain k7 k9)⟩
      ·have hb2:b1=false:=by simpa using hb
       subst hb2;have HR2:Hid (r=(s1,false)):=lh (by rw[HR.out,if_neg si]);clear HR HIH
       go_upto_region 15 with fail
       go_wp2_with (go_at_fn 202;refine HC.out.mono ?_;rintro e w7 ⟨rfl,h7,k7⟩)
       go_ret
       exact⟨by rw[HR2.out];rfl,by rw[HR2.out];exact h7,RsK.chain Kx k7⟩
     ·by_cases h3:h.op=3
      ·obtain⟨x,hx,hxl⟩:=hju (.inr h3);have hx':h.x=(x:Int):=hx;rw[h3] at z0;rw[hx'] at z1;have HC:=lh (HIH.out wx (s.1,s.2++[pc]) x hIx.out HAS.out hfs hxl);have HR:Hid (r=addP (insL hs) f (s.1,s.2++[pc]) x):=lh (by
        rw[HST.out,if_neg (show ¬h.ins.op=2 from h2),if_pos (show h.ins.op=3 from h3)];have e:h.ins.x.toNat=x:=by show h.x.toNat=x;omega
        rw[e])
       clear HST HIH hju hju2 hnx hx hx'
       go_upto_region 13 with fail
       exact U3z2
      ·have h4:h.op=4:=om;have hnl:=hnx (.inr h4);rw[h4] at z0;have HC:=lh (HIH.out wx (s.1,s.2++[pc]) (pc+1) hIx.out HAS.out hfs hnl);have HR:Hid (r=addP (insL hs) f (s.1,s.2++[pc]) (pc+1)):=lh (by
        rw[HST.out,if_neg (show ¬h.ins.op=2 from h2),if_neg (show ¬h.ins.op=3 from h3),if_pos (show h.ins.op=4 from h4)])
       have hw1:IntKind.i64.wrap ((pc:Int)+1)=((pc+1:Nat):Int):=wj;clear HST HIH hju hju2 hnx;exact U3z2
end
section
open Go.RowKit
open Go.ChangeMaps (setBlock)
attribute [local go_sem ↓] Go.wp_at_zero Go.wp_at_succ
theorem conv_own {w:World}{base c:Nat}{A:Option Addr}{bs:List Int}(h:OwnS w base 5 1 A bs.length c (bs.map (Value.int .u8)))(hn:bs≠[]) :
 (convert 331 9 (.slice A bs.length c)).run Tryz.prog w=.ok (.string (strOfNums bs)) w:=by
 have hu:Tryz.prog.underlying 5=some (.int .u8):=by kernel_rfl
 have hs:Tryz.prog.underlying 9=some .string:=by kernel_rfl
 obtain⟨b,o,rfl,hc⟩:=OwnS.cells h (by simpa using hn);have hl:(loadCells ⟨b,o,none⟩ bs.length).run Tryz.prog w=.ok (bs.map (Value.int .u8)).toArray w:=by
  have h2:=run_loadCells_list (P:=Tryz.prog) w ⟨b,o,none⟩ (bs.map (Value.int .u8)) (fun j v hj=>by
   obtain⟨hj1,hj2⟩:=List.getElem?_eq_some_iff.1 hj;rw[Addr.add_lit,hc j hj1,<-hj2])
  rw[List.length_map] at h2;exact h2
 rw[run_convert_bytes_string w _ _ _ (some ⟨b,o,none⟩) _ c Tryz.underlying331 hu hs,run_bytesToString w _ _ c bs hl,foldl_push_bytes];simp[strOfNums,ByteArray.empty,ByteArray.emptyWithCapacity]
 rfl
def kmap (L:List (List Nat)):List (ByteArray×Int):=L.zipIdx.map (fun p=>(keyS p.1,(p.2:Int)))
structure NmI (wr:World)(base gb gm gM:Nat)(LA:Option Addr)(Lc:Nat)(sts:List Hl):Prop where
 map:MapAt wr gm Value.string (Value.int .i32) (kmap (stsOf sts))
 own:OwnS wr base 22 1 LA sts.length Lc (flatL sts)
 il:∀z∈sts,IL wr z.A z.c (castL z.l)
 ty:∀z∈sts,TyI wr z.A
 nM:∀z∈sts,z.A.map (·.block)≠some gM
 lt:∀z∈sts,∀i∈z.l,i<65536
theorem mkCap (n:Nat)(h:n<=500000)(W:World):(Instr.makeSlice 331 (.int .i64 0) (.int .i64 (2*(n:Int)))).run Tryz.prog W=.ok (.slice (some ⟨W.heap.size,0,none⟩) 0 (2*n)) (W.alloc (.cells (Array.replicate (2*n) (.int .u8 0)) 5)):=by
 have hi:(Tryz.prog.info? 5).map (fun i=>(i.zero,i.size,i.bytes))=some (some (.int .u8 0),1,1):=by kernel_rfl
 obtain⟨i0,hi0,hz0,hz1,hz2⟩:=info_parts hi;have e:(2*(n:Int))=((2*n:Nat):Int):=om;rw[e];have:=run_make (P:=Tryz.prog) W 331 5 i0 (.int .u8 0) Tryz.underlying331 hi0 hz0 .i64 .i64 0 ((2*n:Nat):Int) om om (by rw[hz2];omega) om;rw[this,hz1];simp only[Int.toNat_natCast,Value.cells];rw[madeCells_one]
 simp
theorem keyB_snoc {l:List Nat}{k:Nat}(hk:k<l.length):keyB (l.take (k+1))=keyB (l.take k)++[((l[k] / 256 % 256:Nat):Int),((l[k] % 256:Nat):Int)]:=by
 unfold keyB;rw[List.take_add_one,List.getElem?_eq_getElem hk,List.flatMap_append]
 simp
end
section
open Go.RowKit
attribute [local go_sem ↓] Go.wp_at_zero Go.wp_at_succ
structure BP where
 base:Nat
 gb:Nat
 gm:Nat
 gM:Nat
 gH:Nat
structure BS (wr w0:World)(p:BP)(gA:Option Addr)(gc:Nat)(hs:List Hin)(cs:List Int)(rows:List Kb)(mark:Int)(LA:Option Addr)(Lc:Nat)(sts:List Hl):Prop where
 ext:Ext w0 wr
 bb:Blk wr p.gb 180 (gbCells gA hs.length gc (.slice (some ⟨p.gH,0,none⟩) hs.length hs.length) (.slice (some ⟨p.gM,0,none⟩) hs.length hs.length) mark (.map (some p.gm)) (.slice LA sts.length Lc))
 bh:Blk wr p.gH 85 (rowsC rows)
 ro:RowsOk wr hs cs hs.length rows
 bm:∃ms,Blk wr p.gM 3 (iInts ms)/\ms.length=hs.length/\∀i,i<hs.length->ms.getD i 0<=mark
 nm:NmI wr p.base p.gb p.gm p.gM LA Lc sts
 lo:w0.heap.size<=p.base/\w0.heap.size<=p.gb/\w0.heap.size<=p.gm/\w0.heap.size<=p.gM/\w0.heap.size<=p.gH
 bs:p.base<=wr.heap.size
end
end Go.Proofs.YtmgpefenkilffaaGreat
