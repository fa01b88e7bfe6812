/- Texts of this proof: M1 M4 M5 M3 M2 O0 O9 O1 O5 O8. -/
import Derived.Test.YtmocoldobnimfaaGreatRS14
import Derived.Test.YtmocoldobnimfaaGreatRS16
set_option linter.all false
set_option maxRecDepth 100000
set_option maxHeartbeats 16000000
namespace Go.Proofs.YtmocoldobnimfaaGreat
section
open Go.RowKit
attribute [local go_sem ↓] Go.wp_at_zero Go.wp_at_succ
structure VB (w:World)(gs gg gp gt gw:Nat)(k:Nat):Prop where
 s:Blk w gs 3 #[.int .i64 k]
 g:Blk w gg 4 #[.bool true]
 p:∃cs,Blk w gp 28 cs/\cs[8]? = some (.int .i64 0)
 t:Blk w gt 3 #[.int .i64 255]
 f:Blk w gw 281 #[.func (Fn.func 174) #[] #[.pointer (some ⟨gs,0,none⟩),.pointer (some ⟨gg,0,none⟩),.pointer (some ⟨gp,0,none⟩),.pointer (some ⟨gt,0,none⟩),.pointer (some ⟨gw,0,none⟩)]]
 ne:gs≠gt
theorem VB.ext {w w':World}{gs gg gp gt gw k:Nat}(h:VB w gs gg gp gt gw k)(x:Ext w w'):VB w' gs gg gp gt gw k:=⟨h.s.ext x,h.g.ext x,by obtain⟨cs,h1,h2⟩:=h.p;exact⟨cs,h1.ext x,h2⟩,h.t.ext x,h.f.ext x,h.ne⟩
def VQ (gs gg:Nat):Nat->Prop:=fun b=>b=gs\/b=gg
def RetVb (gs gg gp gt gw k:Nat)(w:World)(e:Ending)(w':World):Prop:=e=.returned (.bool true)/\VB w' gs gg gp gt gw k/\KpP (VQ gs gg) w w'
def LfAt (w:World)(b o:Nat)(x:Int):Prop:=∃sb,NdP w b o (ndS sb x)/\Blk w sb 38 #[.int .i64 x,.int .i64 x]/\0<=x/\x<=255
theorem LfAt.ext {w w':World}{b o:Nat}{x:Int}(h:LfAt w b o x)(k:Ext w w'):LfAt w' b o x:=by
 obtain⟨sb,h1,h2,h3⟩:=h;exact⟨sb,h1.ext k,h2.ext k,h3⟩
theorem NdP.kp {w w':World}{b o:Nat}{n:Nd}{p:Nat->Prop}(h:NdP w b o n)(k:KpP p w w')(hp:¬p b):NdP w' b o n:=fun i hi=>by
 have h1:=h i hi;have hlt:b<w.heap.size:=World.block_lt_of_cell? _ _ h1;have e:=k.block b hlt hp
 simpa[World.cell?,e] using h1
theorem VB.setS {w:World}{gs gg gp gt gw k:Nat}(h:VB w gs gg gp gt gw k):VB (w.setCell ⟨gs,0,none⟩ (.int .i64 ((k:Int)+1))) gs gg gp gt gw (k+1):=by
 obtain⟨cs,h1,h2⟩:=h.p;exact⟨Blk.set h.s 0 (.int .i64 ((k:Int)+1)),h.g.far (Blk.neT h.g h.s de) _,⟨cs,h1.far (Blk.neT h1 h.s de) _,h2⟩,h.t.far h.ne.symm _,h.f.far (Blk.neT h.f h.s de) _,h.ne⟩
theorem VB.setG {w:World}{gs gg gp gt gw k:Nat}(h:VB w gs gg gp gt gw k):VB (w.setCell ⟨gg,0,none⟩ (.bool true)) gs gg gp gt gw k:=by
 obtain⟨cs,h1,h2⟩:=h.p;exact⟨h.s.far (Blk.neT h.s h.g de) _,Blk.set h.g 0 (.bool true),⟨cs,h1.far (Blk.neT h1 h.g de) _,h2⟩,h.t.far (Blk.neT h.t h.g de) _,h.f.far (Blk.neT h.f h.g de) _,h.ne⟩
theorem VB.noP {w:World}{gs gg gp gt gw k b T:Nat}{cs:Array Value}(h:VB w gs gg gp gt gw k)(hb:Blk w b T cs)(h1:T≠3)(h2:T≠4):¬VQ gs gg b:=fun e=>by
 rcases e with e|e
 ·exact Blk.neT hb h.s h1 e
 ·exact Blk.neT hb h.g h2 e
def NoV (gs gg b:Nat):Prop:=¬VQ gs gg b
theorem LfAt.kp {w w':World}{b o:Nat}{x:Int}{gs gg gp gt gw k:Nat}(h:LfAt w b o x)(hv:VB w gs gg gp gt gw k)(kk:KpP (VQ gs gg) w w')(hb:NoV gs gg b):LfAt w' b o x:=by
 obtain⟨sb,h1,h2,h3⟩:=h;exact⟨sb,h1.kp kk hb,kk.blk h2 (hv.noP h2 de de),h3⟩
theorem valid1S_any (w:World)(gs gg gp gt gw k:Nat)(hv:VB w gs gg gp gt gw k)(hk:k<200)(b o:Nat)(x:Int)(d:Int)(hd:d<=24/\0<=d)(hnv:NoV gs gg b)(hl:LfAt w b o x) :
 Calls Tryz.prog 174 #[.pointer (some ⟨b,o,none⟩),.int .i64 d,.pointer (some ⟨gs,0,none⟩),.pointer (some ⟨gg,0,none⟩),.pointer (some ⟨gp,0,none⟩),.pointer (some ⟨gt,0,none⟩),.pointer (some ⟨gw,0,none⟩)] w (RetVb gs gg gp gt gw (k+1) w):=by
 obtain⟨sb,hn,hsb,hx⟩:=hl;have hd1:=hd.1;have s0:w.cell? ⟨gs,0,none⟩=some (.int .i64 k):=hv.s.cell 0;have s1:=hv.s.frz 0;have V1:=hv.setS;have K1:=(KpP.refl (VQ gs gg) w).set (x:=⟨gs,0,none⟩) (.inl (.inl rfl)) (.int .i64 ((k:Int)+1));have hkk:(k:Int)+1<=256:=om;have HN1:=lh (hn.kp K1 hnv);have HSB:=lh (K1.blk hsb (hv.noP hsb de de));have HK1:=lh K1;clear K1 hn hsb;go_enter Tryz.func174,Tryz.ntmps174
 go_upto_region 2 with fail
 generalize w.setCell ⟨gs,0,none⟩ (.int .i64 ((k:Int)+1))=w1 at *;have HV1:=lh V1;clear s0 s1 hv;have s0:w1.cell? ⟨gs,0,none⟩=some (.int .i64 ((k:Int)+1)):=V1.s.cell 0;obtain⟨cs,hp,hp8⟩:=V1.p;have g0:w1.cell? ⟨gg,0,none⟩=some (.bool true):=V1.g.cell 0;have t0:w1.cell? ⟨gt,0,none⟩=some (.int .i64 255):=V1.t.cell 0;have p8:w1.cell? ⟨gp,8,none⟩=some (.int .i64 0):=by rw[hp.cell 8];exact hp8
 clear hp hp8 V1
 go_upto_region 4 with fail
 clear s0;have HF:=lh (formedS_any w1 b o sb x 0 hx HN1.out HSB.out);have f0:=fun(w':World) (x:Ext w1 w')=>(HV1.out.ext x).g.frz 0;have f1:=fun(w':World) (x:Ext w1 w')=>(HV1.out.ext x).g.cell 0;have HN2:=fun(w':World) (x:Ext w1 w')=>lh (HN1.out.ext x)
 go_upto_region 5 with(go_at_call 175;refine HF.out.mono ?_;rintro e w2 ⟨rfl,x2⟩;have q0:=f0 w2 x2;have q1:=f1 w2 x2)
 have V3:=lh ((HV1.out.ext x2).setG);have K3':=(KpP.refl (VQ gs gg) w2).set (x:=⟨gg,0,none⟩) (.inl (.inr rfl)) (.bool true);have K3:=lh ((HK1.out.thenExt x2).trans K3');have hn3:=(HN1.out.ext x2).kp K3' hnv;generalize w2.setCell ⟨gg,0,none⟩ (.bool true)=w3 at *;have c2:w3.cell? ⟨b,o+2,none⟩=some (.slice none 0 0):=hn3 2 (by simp[Nd.cs,ndS]);clear f0 f1 q0 q1 g0 t0 p8 HF HN1 HN2 hn3 HK1 HV1 x2 K3'
 go_upto_region 6 with fail
 go_loopw [32] (fun v wr=>v=.int .i64 0/\wr=w3) (fun _ _=>0)
 case atStart=>exact⟨rfl,rfl⟩
 case round=>
  obtain⟨rfl,rfl⟩:=hrel
  go_wp2_with fail
  go_ret
  exact⟨rfl,V3.out,K3.out⟩
theorem Kp.vq {gs gg:Nat}{a b:World}(h:Kp [gs,gg] a b):KpP (VQ gs gg) a b:=KpP.kp h (fun i hi=>by simpa[VQ] using hi)
def CtAt (w:World)(b o kb:Nat)(x y:Int):Prop:=∃u v,NdP w b o (ndC kb u v)/\LfAt w kb 0 x/\LfAt w kb 8 y
theorem CtAt.ext {w w':World}{b o kb:Nat}{x y:Int}(h:CtAt w b o kb x y)(k:Ext w w'):CtAt w' b o kb x y:=by
 obtain⟨u,v,h1,h2,h3⟩:=h;exact⟨u,v,h1.ext k,h2.ext k,h3.ext k⟩
theorem v1rnd {P:Prop}(h:P:=by
 have w0:wr.cell? ⟨gw,0,none⟩=some (.func (Fn.func 174) #[] #[.pointer (some ⟨gs,0,none⟩),.pointer (some ⟨gg,0,none⟩),.pointer (some ⟨gp,0,none⟩),.pointer (some ⟨gt,0,none⟩),.pointer (some ⟨gw,0,none⟩)]):=hvr.f.cell 0;have nw:gw∉[gs,gg]:=fun e=>hvr.noP hvr.f de de (by simpa[VQ] using e);have d0:=fun(w':World) (h:Kp [gs,gg] wr w')=>h.cell w0 nw;have d1:=fun(w':World) (h:Kp [gs,gg] wr w')=>h.cell cr (by simpa[VQ,NoV] using hnv);have VR:=lh hvr;have KR:=lh hkr;clear w0 cr nw hvr hkr
 go_upto_region 8 with fail
 refine Xr.start [gs,gg] kr ?_;refine Xtk 0 ?_
 iterate 8(refine Xtn ?_)
 clear d0 d1;refine Xsp 9 fun w5 hE5 hK5 K hKK=>?_;go_simp;refine(valid1S_any w5 gs gg gp gt gw _ (VR.out.ext hE5) om kb _ _ (d+1) om hnk (HLF.out.ext hE5)).mono ?_;rintro e w6 ⟨rfl,v6,k6⟩;refine hKK _ _ (WI_kp k6 (by simp[VQ])) (hK5.kpP k6 (by simp[VQ])) ?_;clear hKK;refine ptm ?_;refine Xtk 10 ?_;refine Xdn fun w7 hE7 hK7=>?_;have V7:=lh (v6.ext hE7);have K7:=lh (KR.out.trans hK7.vq);clear hE5 hK5 v6 k6 hE7 hK7
 go_wp2_with fail
 go_roundw
 case rel=>first|exact⟨1,by go_num,by decide,V7.out,K7.out⟩|exact⟨2,by go_num,by decide,V7.out,K7.out⟩
 case measure=>simp[intOf]):P:=h
theorem valid1C_any (w:World)(gs gg gp gt gw k:Nat)(hv:VB w gs gg gp gt gw k)(hk:k<100)(b o kb:Nat)(x y:Int)(d:Int)(hd:d<=20/\0<=d)(hnv:NoV gs gg b)(hnk:NoV gs gg kb)(hl:CtAt w b o kb x y) :
 Calls Tryz.prog 174 #[.pointer (some ⟨b,o,none⟩),.int .i64 d,.pointer (some ⟨gs,0,none⟩),.pointer (some ⟨gg,0,none⟩),.pointer (some ⟨gp,0,none⟩),.pointer (some ⟨gt,0,none⟩),.pointer (some ⟨gw,0,none⟩)] w (RetVb gs gg gp gt gw (k+3) w):=by
 obtain⟨u,v,hn,hl1,hl2⟩:=hl;have hd1:d<=24:=om;have s0:w.cell? ⟨gs,0,none⟩=some (.int .i64 k):=hv.s.cell 0;have s1:=hv.s.frz 0;have V1:=hv.setS;have K1:=(KpP.refl (VQ gs gg) w).set (x:=⟨gs,0,none⟩) (.inl (.inl rfl)) (.int .i64 ((k:Int)+1));have hkk:(k:Int)+1<=256:=om;have HN1:=lh (hn.kp K1 hnv);have HL1:=lh (hl1.kp hv K1 hnk);have HL2:=lh (hl2.kp hv K1 hnk);have HK1:=lh K1;clear K1 hn hl1 hl2;go_enter Tryz.func174,Tryz.ntmps174
 go_upto_region 2 with fail
 generalize w.setCell ⟨gs,0,none⟩ (.int .i64 ((k:Int)+1))=w1 at *;have HV1:=lh V1;clear s0 s1 hv;have s0:w1.cell? ⟨gs,0,none⟩=some (.int .i64 ((k:Int)+1)):=V1.s.cell 0;obtain⟨cs,hp,hp8⟩:=V1.p;have g0:w1.cell? ⟨gg,0,none⟩=some (.bool true):=V1.g.cell 0;have t0:w1.cell? ⟨gt,0,none⟩=some (.int .i64 255):=V1.t.cell 0;have p8:w1.cell? ⟨gp,8,none⟩=some (.int .i64 0):=by rw[hp.cell 8];exact hp8
 clear hp hp8 V1
 go_upto_region 4 with fail
 clear s0;have HF:=lh (formedC_any w1 b o kb u v 0 HN1.out);have f0:=fun(w':World) (x:Ext w1 w')=>(HV1.out.ext x).g.frz 0;have f1:=fun(w':World) (x:Ext w1 w')=>(HV1.out.ext x).g.cell 0
 go_upto_region 5 with(go_at_call 175;refine HF.out.mono ?_;rintro e w2 ⟨rfl,x2⟩;have q0:=f0 w2 x2;have q1:=f1 w2 x2)
 have V3:=lh ((HV1.out.ext x2).setG);have K3':=(KpP.refl (VQ gs gg) w2).set (x:=⟨gg,0,none⟩) (.inl (.inr rfl)) (.bool true);have K3:=lh ((HK1.out.thenExt x2).trans K3');have hn3:=(HN1.out.ext x2).kp K3' hnv;have HL3:=lh ((HL1.out.ext x2).kp (HV1.out.ext x2) K3' hnk);have HL4:=lh ((HL2.out.ext x2).kp (HV1.out.ext x2) K3' hnk);generalize w2.setCell ⟨gg,0,none⟩ (.bool true)=w3 at *;have c2:w3.cell? ⟨b,o+2,none⟩=some (.slice (some ⟨kb,0,none⟩) 2 2):=hn3 2 (by simp[Nd.cs,ndC]);have HN3:=lh hn3;clear f0 f1 q0 q1 g0 t0 p8 HF HN1 hn3 HK1 HV1 x2 K3' HL1 HL2
 go_upto_region 6 with fail
 have hwd:IntKind.i64.wrap (d+1)=d+1:=wj
 go_loopw [32] (fun v wr=>∃i:Nat,v=.int .i64 i/\i<=2/\VB wr gs gg gp gt gw (k+1+i)/\KpP (VQ gs gg) w3 wr) (fun v _=>2-(intOf v).toNat)
 case atStart=>exact⟨0,rfl,om,V3.out,KpP.refl _ _⟩
 case round=>
  obtain⟨i,rfl,hi,hvr,hkr⟩:=hrel;have h3:i=0\/i=1\/i=2:=om;have cr:=(HN3.out.kp hkr hnv) 2 (by simp[Nd.cs,ndC]);have cr:wr.cell? ⟨b,o+2,none⟩=some (.slice (some ⟨kb,0,none⟩) 2 2):=cr;rcases h3 with rfl|rfl|rfl
  ·have HLF:=lh (HL3.out.kp V3.out hkr hnk);exact v1rnd
  ·have HLF:=lh (HL4.out.kp V3.out hkr hnk);exact v1rnd
  ·go_wp2_with fail
   go_ret
   exact⟨rfl,hvr,K3.out.trans hkr⟩
theorem infoIs:(Tryz.prog.info? 126).map (fun i=>(i.zero,i.size,i.bytes))=some (some (.agg #[.int .i64 0,.int .i64 0,.int .i64 0,.int .i64 0,.slice none 0 0]),5,56):=by kernel_rfl
def KeepN (gc:Nat)(w w':World):Prop:=∀(b T:Nat) (cs:Array Value),Blk w b T cs->T≠126->b≠gc->Blk w' b T cs
theorem KeepN.refl (gc:Nat)(w:World):KeepN gc w w:=fun _ _ _ h _ _=>h
theorem KeepN.trans {gc:Nat}{a b c:World}(h:KeepN gc a b)(k:KeepN gc b c):KeepN gc a c:=fun x T cs hb h1 h2=>k x T cs (h x T cs hb h1 h2) h1 h2
theorem KeepN.of_ext {gc:Nat}{a b:World}(h:Ext a b):KeepN gc a b:=fun _ _ _ hb _ _=>hb.ext h
theorem OwnS.keepN {w w':World}{gc base e size n c:Nat}{A:Option Addr}{xs:List Value}(h:OwnS w base e size A n c xs)(k:KeepN gc w w')(he:e≠126)(hg:∀b,A.map (·.block)=some b->b≠gc):OwnS w' base e size A n c xs:=by
 have hl:=OwnS.len h;rcases OwnS.form h with⟨rfl,rfl,rfl,rfl⟩|⟨g,cur,rfl,hb,hh,h1,h2,h3,h4⟩
 ·exact OwnS.nil _ _ _ _
 ·have hB:=k g e cur hh he (hg g rfl);have:=OwnS.of_blk (size:=size) (n:=n) (c:=c) hB hb h3 h1 h2
  rwa [h4] at this
structure CX (w:World)(base gc:Nat)(hs:List Hin):Prop where
 ex:∃A c,Blk w gc 46 #[.slice A hs.length c]/\OwnS w base 126 5 A hs.length c (flatN hs)
 it:∀h∈hs,h.wf/\OwnP w 0 h.A h.c h.l/\∀s∈h.l,I64 s.1/\I64 s.2
theorem OwnP.ne_gc {w:World}{base gc c:Nat}{A:Option Addr}{l:List Sp}{cs:Array Value}(h:OwnP w base A c l)(hb:Blk w gc 46 cs):∀b,A.map (·.block)=some b->b≠gc:=fun b e=>by
 rcases OwnS.form h with⟨rfl,_⟩|⟨g,cur,rfl,_,hh,_⟩
 ·cases e
 ·injection e with e;subst e;exact Blk.neT hh hb de
theorem CX.ext {w w':World}{base gc:Nat}{hs:List Hin}(h:CX w base gc hs)(x:Ext w w'):CX w' base gc hs:=by
 obtain⟨A,c,h1,h2⟩:=h.ex;exact⟨⟨A,c,h1.ext x,h2.ext x⟩,fun z hz=>⟨(h.it z hz).1,OwnS.ext (h.it z hz).2.1 x,(h.it z hz).2.2⟩⟩
def CQ (gc:Nat)(A:Option Addr):Nat->Prop:=fun b=>b=gc\/A.map (·.block)=some b
def RetCX (wE:World)(base gc:Nat)(hs:List Hin)(w w':World):Prop:=CX w' base gc hs/\Ext wE w'/\KeepN gc w w'
theorem hput_any (wE w:World)(base gc:Nat)(hE:wE.heap.size<=base)(hbg:base<=gc)(xE:Ext wE w)(hbw:base<=w.heap.size)(hs:List Hin)(A:Option Addr)(c:Nat)(hb:Blk w gc 46 #[.slice A hs.length c])(hown:OwnS w base 126 5 A hs.length c (flatN hs))(hit:∀h∈hs,h.wf/\OwnP w 0 h.A h.c h.l/\∀s∈h.l,I64 s.1/\I64 s.2)(hl:hs.length<=100000)(h:Hin)(hw:h.wf)(ho:OwnP w 0 h.A h.c h.l)(hi:∀s∈h.l,I64 s.1/\I64 s.2) :
 Calls Tryz.prog 178 #[.agg #[.int .i64 h.op,.int .i64 h.x,.int .i64 h.y,.int .i64 h.n,.slice h.A h.l.length h.c],.pointer (some ⟨gc,0,none⟩)] w (fun e w'=>e=.returned (.int .i64 hs.length)/\RetCX wE base gc (hs++[h]) w w'/\KpP (CQ gc A) w w'):=by
 obtain⟨iN,jN0,jN1,jN2,jN3⟩:=info_parts infoIs;have X0:=Ext.alloc w (.cells #[.int .i64 h.op,.int .i64 h.x,.int .i64 h.y,.int .i64 h.n,.slice h.A h.l.length h.c] 126);have B0:=Blk.new w 126 #[.int .i64 h.op,.int .i64 h.x,.int .i64 h.y,.int .i64 h.n,.slice h.A h.l.length h.c];go_enter Tryz.func178,Tryz.ntmps178
 go_upto_region 1 with fail
 obtain⟨gi,hgi⟩:∃g,g=w.heap.size:=⟨_,rfl⟩
 rw[<-hgi] at B0 ⊢;have HGI:=lh hgi;clear hgi;generalize w.alloc (.cells #[.int .i64 h.op,.int .i64 h.x,.int .i64 h.y,.int .i64 h.n,.slice h.A h.l.length h.c] 126)=w1 at *;have c0:w1.cell? ⟨gc,0,none⟩=some (.slice A hs.length c):=(hb.ext X0).cell 0;have i0:w1.cell? ⟨gi,0,none⟩=some (.int .i64 h.op):=B0.cell 0;have i1:w1.cell? ⟨gi,1,none⟩=some (.int .i64 h.x):=B0.cell 1;have i2:w1.cell? ⟨gi,2,none⟩=some (.int .i64 h.y):=B0.cell 2;have i3:w1.cell? ⟨gi,3,none⟩=some (.int .i64 h.n):=B0.cell 3;have i4:w1.cell? ⟨gi,4,none⟩=some (.slice h.A h.l.length h.c):=B0.cell 4;have X1:=Ext.alloc w1 (.cells #[.int .i64 h.op,.int .i64 h.x,.int .i64 h.y,.int .i64 h.n,.slice h.A h.l.length h.c] 126);have B1:Blk (w1.alloc (.cells #[.int .i64 h.op,.int .i64 h.x,.int .i64 h.y,.int .i64 h.n,.slice h.A h.l.length h.c] 126)) w1.heap.size 126 (flatN [h]).toArray:=Blk.new w1 126 #[.int .i64 h.op,.int .i64 h.x,.int .i64 h.y,.int .i64 h.n,.slice h.A h.l.length h.c];have HOW:=lh ((OwnS.ext hown X0).ext X1);have hsz:=X0.size;have hsz1:=X1.size;have HB1:=(hb.ext X0).ext X1;have hcl:CellsAt (w1.alloc (.cells #[.int .i64 h.op,.int .i64 h.x,.int .i64 h.y,.int .i64 h.n,.slice h.A h.l.length h.c] 126)) (some ⟨w1.heap.size,0,none⟩) (flatN [h]):=blk_cells B1;have HFL:=lh (flatN_one [h]);have h63:hs.length+1<=maxLen:=by unfold maxLen;omega
 have h64:(hs.length+1)*56<=140737488355328:=om;have hbz:base<=(w1.alloc (.cells #[.int .i64 h.op,.int .i64 h.x,.int .i64 h.y,.int .i64 h.n,.slice h.A h.l.length h.c] 126)).heap.size:=om;have H63:=lh (And.intro h63 (And.intro h64 hbz));have f0:=HB1.frz 0;clear h63 h64 hbz;have XW:=lh (X0.trans X1);have HPOST:∀(A':Option Addr) (c':Nat) (w2:World),OwnS w2 base 126 5 A' (hs.length+1) c' (flatN hs++flatN [h])->(w1.alloc (.cells #[.int .i64 h.op,.int .i64 h.x,.int .i64 h.y,.int .i64 h.n,.slice h.A h.l.length h.c] 126)).grownBy w2 (A.map (·.block))->
  Hid (Blk w2 gc 46 #[.slice A hs.length c]/\Blk (w2.setCell ⟨gc,0,none⟩ (.slice A' (hs.length+1) c')) gc 46 #[.slice A' (hs.length+1) c']/\RetCX wE base gc (hs++[h]) w (w2.setCell ⟨gc,0,none⟩ (.slice A' (hs.length+1) c'))/\KpP (CQ gc A) w (w2.setCell ⟨gc,0,none⟩ (.slice A' (hs.length+1) c'))):=fun A' c' w2 ho2 hg2=>lh (by
  have hA:∀b,A.map (·.block)=some b->∃cur,(w1.alloc (.cells #[.int .i64 h.op,.int .i64 h.x,.int .i64 h.y,.int .i64 h.n,.slice h.A h.l.length h.c] 126)).heap[b]? = some (.cells cur 126 (0,0)):=fun b e=>by
   rcases OwnS.form HOW.out with⟨rfl,_⟩|⟨g,cur,rfl,_,hh,_⟩
   ·cases e
   ·injection e with e;subst e;exact⟨cur,hh⟩
  have kg:=KpP.of_grown hg2;have keep1:KeepN gc w w2:=fun b T cs hb' hT hne=>by
   refine kg.blk (hb'.ext XW.out) (fun e=>?_);obtain⟨cur,hh⟩:=hA b e;exact Blk.neT (hb'.ext XW.out) hh hT rfl
  have hb2:Blk w2 gc 46 #[.slice A hs.length c]:=by
   refine kg.blk HB1 (fun e=>?_);obtain⟨cur,hh⟩:=hA gc e;exact Blk.neT HB1 hh de rfl
  have hb3:Blk (w2.setCell ⟨gc,0,none⟩ (.slice A' (hs.length+1) c')) gc 46 #[.slice A' (hs.length+1) c']:=Blk.set hb2 0 _;have keep2:KeepN gc w (w2.setCell ⟨gc,0,none⟩ (.slice A' (hs.length+1) c')):=fun b T cs hb' hT hne=>(keep1 b T cs hb' hT hne).far hne _;have hA2:A'.map (·.block)≠some gc:=fun e=>by
   rcases OwnS.form ho2 with⟨rfl,_⟩|⟨g,cur,rfl,_,hh,_⟩
   ·cases e
   ·injection e with e;exact Blk.neT hh hb2 de e
  refine⟨hb2,hb3,⟨⟨⟨A',c',?_,?_⟩,fun z hz=>?_⟩,?_,keep2⟩,?_⟩
  ·rw[List.length_append];exact hb3
  ·rw[List.length_append,flatN_append];exact ho2.far hA2 _
  ·rcases List.mem_append.1 hz with hz|hz
   ·obtain⟨q1,q2,q3⟩:=hit z hz;exact⟨q1,OwnS.keepN q2 keep2 de (OwnP.ne_gc q2 hb),q3⟩
   ·rw[List.mem_singleton.1 hz];exact⟨hw,OwnS.keepN ho keep2 de (OwnP.ne_gc ho hb),hi⟩
  ·have xb:Ext wE (w1.alloc (.cells #[.int .i64 h.op,.int .i64 h.x,.int .i64 h.y,.int .i64 h.n,.slice h.A h.l.length h.c] 126)):=xE.trans XW.out;exact(xb.grown hg2 (fun k e=>by have:=OwnS.row HOW.out k e;omega)).setNew (p:=⟨gc,0,none⟩) (by show wE.heap.size<=gc;omega) _
  ·exact((KpP.of_ext XW.out).trans (kg.mono (fun k e=>.inr e))).set (x:=⟨gc,0,none⟩) (.inl (.inl rfl)) _)
 have HLL:Hid (((hs.length:Int)+1:Int)-1=hs.length):=lh om;clear hb hown hit X0 X1 B0 B1 HB1 ho hi
 go_upto_region 2 with(at_builtin;refine wpList_app _ rfl _ _ _ rfl base 126 iN _ 5 56 Tryz.underlying46 jN0 jN1 jN2 jN3 rfl om A hs.length c (flatN hs) rfl HOW.out _ 1 1 (flatN [h]) rfl rfl hcl HFL.out H63.out.1 H63.out.2.1 H63.out.2.2 ?_;intro A' c' w2 ho2 hg2 _;have HP:=HPOST A' c' w2 ho2 hg2;have z0:=HP.out.1.cell 0;have z1:=HP.out.1.frz 0)
 have HP2:=lh HP.out.2.2;have q0:=HP.out.2.1.cell 0;generalize w2.setCell ⟨gc,0,none⟩ (.slice A' (hs.length+1) c')=w3 at *;have q0:w3.cell? ⟨gc,0,none⟩=some (.slice A' (hs.length+1) c'):=q0;clear HP z0 z1 hg2 ho2 HPOST HOW hcl
 go_wp2_with fail
 go_ret
 exact⟨by first|rfl|(congr 2;omega),HP2.out⟩
def bl (A:Option Addr):List Nat:=(A.map (·.block)).toList
theorem CQ.mem {gc:Nat}{A:Option Addr}:∀i,CQ gc A i->i∈gc::bl A:=fun i e=>by
 rcases e with e|e
 ·simp[e]
 ·simp[bl,e]
theorem bl.mem {A:Option Addr}{i:Nat}(h:i∈bl A):A.map (·.block)=some i:=by
 cases A with
 | none=>simp[bl] at h
 | some a=>simpa[bl,eq_comm] using h
structure WB (w:World)(gc gq gw ga gr:Nat):Prop where
 q:Blk w gq 283 #[.func (Fn.func 178) #[] #[.pointer (some ⟨gc,0,none⟩)]]
 w:Blk w gw 284 #[.func (Fn.func 182) #[] #[.pointer (some ⟨gq,0,none⟩),.pointer (some ⟨gw,0,none⟩),.pointer (some ⟨ga,0,none⟩),.pointer (some ⟨gr,0,none⟩)]]
theorem WB.ext {w w':World}{gc gq gw ga gr:Nat}(h:WB w gc gq gw ga gr)(x:Ext w w'):WB w' gc gq gw ga gr:=⟨h.q.ext x,h.w.ext x⟩
theorem WB.keep {w w':World}{gc gq gw ga gr:Nat}{cs:Array Value}(h:WB w gc gq gw ga gr)(hb:Blk w gc 46 cs)(k:KeepN gc w w'):WB w' gc gq gw ga gr:=⟨k _ _ _ h.q de (Blk.neT h.q hb de),k _ _ _ h.w de (Blk.neT h.w hb de)⟩
theorem one_slS {w:World}{g:Nat}{x:Int}(hb:Blk w g 38 #[.int .i64 x,.int .i64 x])(hx:0<=x/\x<=255):SL w (some ⟨g,0,none⟩) 1 [(x,x)]:=by
 have h:=OwnS.of_blk (base:=0) (size:=2) (n:=1) (c:=1) hb (Nat.zero_le _) rfl (Nat.le_refl _) um;exact SL.of_own (l:=[(x,x)]) h (by intro s hs;rw[List.mem_singleton.1 hs];unfold S64 I64;omega)
theorem OwnP.downZ {w:World}{b1 c:Nat}{A:Option Addr}{l:List Sp}(h:OwnP w b1 A c l):OwnP w 0 A c l:=by
 have hl:=OwnS.len h;rcases OwnS.form h with⟨rfl,h1,rfl,h2⟩|⟨g,cur,rfl,hb,hh,h1,h2,h3,h4⟩
 ·have hl0:l=[]:=List.length_eq_zero_iff.1 h1;subst hl0;exact OwnP.nil _ _
 ·have:=OwnS.of_blk (base:=0) (size:=2) (n:=l.length) (c:=c) hh (Nat.zero_le _) h3 h1 h2;unfold OwnP
  rwa [h4] at this
def InS (x:Int)(h:Hin):Prop:=h.op=1/\h.x=0/\h.y=0/\h.n=0/\h.l=[(x,x)]
def PutW (gc:Nat)(w w':World):Prop:=∀(A:Option Addr) (n c:Nat),Blk w gc 46 #[.slice A n c]->KpP (CQ gc A) w w'
theorem PutW.of {gc n c:Nat}{A:Option Addr}{w w':World}(hb:Blk w gc 46 #[.slice A n c])(h:KpP (CQ gc A) w w'):PutW gc w w':=fun A' n' c' hb'=>by
 have e:some (Obj.cells #[.slice A n c] 46 (0,0))=some (.cells #[.slice A' n' c'] 46 (0,0)):=Eq.trans (Eq.symm hb) hb';injection e with e
 injection e with e _
 have e1:(Value.slice A n c)=.slice A' n' c':=by simpa using e
 injection e1 with e1
 subst e1;exact h
def RetWr (wE:World)(base gc gq gw ga gr:Nat)(hs:List Hin)(x:Int)(w:World)(e:Ending)(w':World):Prop:=e=.returned (.tuple #[])/\∃h,InS x h/\RetCX wE base gc (hs++[h]) w w'/\WB w' gc gq gw ga gr/\PutW gc w w'
theorem writeS_any (wE w:World)(base gc gq gw ga gr:Nat)(hE:wE.heap.size<=base)(hbg:base<=gc)(xE:Ext wE w)(hbw:base<=w.heap.size)(hwb:WB w gc gq gw ga gr)(hs:List Hin)(hc:CX w base gc hs)(hl:hs.length<=100000)(b o:Nat)(x:Int)(hlf:LfAt wE b o x)(hbl:b<wE.heap.size) :
 Calls Tryz.prog 182 #[.pointer (some ⟨b,o,none⟩),.pointer (some ⟨gq,0,none⟩),.pointer (some ⟨gw,0,none⟩),.pointer (some ⟨ga,0,none⟩),.pointer (some ⟨gr,0,none⟩)] w (RetWr wE base gc gq gw ga gr hs x w):=by
 obtain⟨A,c,hb,hown⟩:=hc.ex;obtain⟨sb,hn,hsb,hx⟩:=hlf;have c0:w.cell? ⟨b,o,none⟩=some (.int .i64 1):=xE.cell (hn 0 (by simp[Nd.cs,ndS]));have c1:w.cell? ⟨b,o+1,none⟩=some (.slice (some ⟨sb,0,none⟩) 1 1):=xE.cell (hn 1 (by simp[Nd.cs,ndS]));have c5:w.cell? ⟨gq,0,none⟩=some (.func (Fn.func 178) #[] #[.pointer (some ⟨gc,0,none⟩)]):=hwb.q.cell 0;have nq:gq∉gc::bl A:=fun e=>by
  rcases List.mem_cons.1 e with e|e
  ·exact Blk.neT hwb.q hb de e
  ·have e':=bl.mem e;rcases OwnS.form hown with⟨rfl,_⟩|⟨g,cur,rfl,_,hh,_⟩
   ·cases e'
   ·injection e' with e';exact Blk.neT hwb.q hh de e'.symm
 have nb:b∉gc::bl A:=fun e=>by
  rcases List.mem_cons.1 e with e|e
  ·omega
  ·have:=OwnS.row hown b (bl.mem e);omega
 have d0:=fun(w':World) (h:Kp (gc::bl A) w w')=>h.cell c5 nq;have d1:=fun(w':World) (h:Kp (gc::bl A) w w')=>h.cell c1 nb;have HCL:=fun(w':World) (y:Ext wE w')=>lh (cloneS_any (some ⟨sb,0,none⟩) 1 [(x,x)] w' (one_slS (hsb.ext y) hx) si);have HI:=lh hc.it;have HB:=lh hb;have HO:=lh hown;have HWB:=lh hwb;clear hwb hc hn hsb c1 c5 nq nb hb hown;go_enter Tryz.func182,Tryz.ntmps182
 go_upto_region 2 with fail
 refine Xr.start (gc::bl A) kr ?_;refine Xtk 0 ?_
 iterate 4(refine Xtn ?_)
 refine Xcl 5 fun w1 hE1 hK1 K hKK=>?_;go_simp;refine(HCL w1 (xE.trans hE1)).out.mono ?_;rintro e w2 ⟨A',c',rfl,ho2,x2⟩;refine hKK _ _ x2 ?_;clear hKK;refine ptm ?_;refine Xr.take 6 (some 19) (v:=.agg #[.int .i64 1,.int .i64 0,.int .i64 0,.int .i64 0,.slice A' 1 c']) rfl rfl dK (by rfl) (fun w' hk=>by go_simp) ?_;refine ptm ?_;refine Xsp 7 fun w3 hE3 hK3 K hKK=>?_;go_simp;have XW3:=(hE1.trans x2).trans hE3;refine(hput_any wE w3 base gc hE hbg (xE.trans XW3) (by have:=XW3.size;omega) hs A c (HB.out.ext XW3) (OwnS.ext HO.out XW3) (fun z hz=>⟨(HI.out z hz).1,OwnS.ext (HI.out z hz).2.1 XW3,(HI.out z hz).2.2⟩) hl ⟨1,0,0,0,A',c',[(x,x)]⟩ (by simp[Hin.wf,I64]) (OwnP.downZ (OwnS.ext ho2 hE3)) (by intro s hs;rw[List.mem_singleton.1 hs];unfold I64;omega)).mono ?_;rintro e w4 ⟨rfl,hcx,kp4⟩;refine hKK _ _ (WI_kp kp4 CQ.mem) (hK3.kpP kp4 CQ.mem) ?_;clear hKK;refine ptm ?_;refine Xdn fun w5 hE5 hK5=>?_;have KW:=lh ((KeepN.of_ext (gc:=gc) XW3).trans (hcx.2.2.trans (KeepN.of_ext hE5)));have HCX:=lh (hcx.1.ext hE5);have HXE:=lh (hcx.2.1.trans hE5);have HW5:=lh (HWB.out.keep HB.out KW.out);have HPW:=lh (PutW.of HB.out (KpP.mono (KpP.trans (KpP.of_ext XW3) (KpP.trans kp4 (KpP.of_ext hE5))) (fun _ e=>e)));clear XW3 hcx kp4 hE5 hK5 hE3 hK3 hE1 hK1 x2 ho2 d0 d1 HCL
 go_wp2_with fail
 exact bodyPost_end (v:=.tuple #[]) (by simp[results,Tryz.results182,go_sem]) rfl ⟨rfl,⟨1,0,0,0,A',c',[(x,x)]⟩,⟨rfl,rfl,rfl,rfl,rfl⟩,⟨HCX.out,HXE.out,KW.out⟩,HW5.out,HPW.out⟩
theorem compS_any (w:World)(b o:Nat)(x:Int)(hl:LfAt w b o x):Calls Tryz.prog 145 #[.pointer (some ⟨b,o,none⟩),.slice none 0 0] w (RetV (.bool true) w):=by
 obtain⟨sb,hn,hsb,hx⟩:=hl;have c0:w.cell? ⟨b,o,none⟩=some (.int .i64 1):=hn 0 (by simp[Nd.cs,ndS]);have c2:w.cell? ⟨b,o+2,none⟩=some (.slice none 0 0):=hn 2 (by simp[Nd.cs,ndS]);go_enter Tryz.func145,Tryz.ntmps145
 go_upto_region 16 with fail
 go_loopw [52] (fun v wr=>v=.int .i64 0/\wr=w) (fun _ _=>0)
 case atStart=>exact⟨rfl,rfl⟩
 case round=>
  obtain⟨rfl,rfl⟩:=hrel
  go_wp2_with fail
  go_ret
  exact⟨rfl,Ext.rfl' _⟩
theorem compC_any (w:World)(b o kb:Nat)(x y:Int)(hl:CtAt w b o kb x y):Calls Tryz.prog 145 #[.pointer (some ⟨b,o,none⟩),.slice none 0 0] w (RetV (.bool true) w):=by
 obtain⟨u,v,hn,h1,h2⟩:=hl;have c0:w.cell? ⟨b,o,none⟩=some (.int .i64 2):=hn 0 (by simp[Nd.cs,ndC]);have c2:w.cell? ⟨b,o+2,none⟩=some (.slice (some ⟨kb,0,none⟩) 2 2):=hn 2 (by simp[Nd.cs,ndC]);have HN:=lh c2;have H1:=lh h1;have H2:=lh h2;clear hn h1 h2;go_enter Tryz.func145,Tryz.ntmps145
 go_upto_region 16 with fail
 clear c0 c2
 go_loopw [52] (fun v wr=>∃i:Nat,v=.int .i64 i/\i<=2/\Ext w wr) (fun v _=>2-(intOf v).toNat)
 case atStart=>exact⟨0,rfl,om,Ext.rfl' _⟩
 case round=>
  obtain⟨i,rfl,hi,x1⟩:=hrel;have c2:=x1.cell HN.out;have h3:i=0\/i=1\/i=2:=om;rcases h3 with rfl|rfl|rfl
  ·have HC:=lh (compS_any wr kb 0 x (H1.out.ext x1))
   go_wp2_with (go_at_call 145;refine HC.out.mono ?_;rintro e w1 ⟨rfl,y1⟩;have X2:=lh (x1.trans y1))
   go_roundw
   case rel=>exact⟨1,by go_num,by decide,X2.out⟩
   case measure=>simp[intOf]
  ·have HC:=lh (compS_any wr kb 8 y (H2.out.ext x1))
   go_wp2_with (go_at_call 145;refine HC.out.mono ?_;rintro e w1 ⟨rfl,y1⟩;have X2:=lh (x1.trans y1))
   go_roundw
   case rel=>exact⟨2,by go_num,by decide,X2.out⟩
   case measure=>simp[intOf]
  ·go_wp2_with fail
   go_ret
   exact⟨rfl,x1⟩
theorem lenS_any (w:World)(b o:Nat)(x:Int)(hl:LfAt w b o x):Calls Tryz.prog 146 #[.pointer (some ⟨b,o,none⟩)] w (RetV (.int .i64 1) w):=by
 obtain⟨sb,hn,hsb,hx⟩:=hl;have c0:w.cell? ⟨b,o,none⟩=some (.int .i64 1):=hn 0 (by simp[Nd.cs,ndS]);have c2:w.cell? ⟨b,o+2,none⟩=some (.slice none 0 0):=hn 2 (by simp[Nd.cs,ndS]);go_enter Tryz.func146,Tryz.ntmps146
 go_upto_region 3 with fail
 go_loopw [3,11] (fun v3 v wr=>v3=.int .i64 0/\v=.int .i64 0/\wr=w) (fun _ _ _=>0)
 case atStart=>exact⟨rfl,rfl,rfl⟩
 case round=>
  obtain⟨rfl,rfl,rfl⟩:=hrel
  go_wp2_with fail
  go_ret
  exact⟨rfl,Ext.rfl' _⟩
theorem lenC_any (w:World)(b o kb:Nat)(x y:Int)(hl:CtAt w b o kb x y):Calls Tryz.prog 146 #[.pointer (some ⟨b,o,none⟩)] w (RetV (.int .i64 2) w):=by
 obtain⟨u,v,hn,h1,h2⟩:=hl;have c0:w.cell? ⟨b,o,none⟩=some (.int .i64 2):=hn 0 (by simp[Nd.cs,ndC]);have c2:w.cell? ⟨b,o+2,none⟩=some (.slice (some ⟨kb,0,none⟩) 2 2):=hn 2 (by simp[Nd.cs,ndC]);have HN:=lh c2;have H0:=lh c0;have H1:=lh h1;have H2:=lh h2;clear hn h1 h2;go_enter Tryz.func146,Tryz.ntmps146
 go_upto_region 3 with fail
 clear c0 c2
 go_loopw [3,11] (fun v3 v wr=>∃i:Nat,v3=.int .i64 i/\v=.int .i64 i/\i<=2/\Ext w wr) (fun _ v _=>2-(intOf v).toNat)
 case atStart=>exact⟨0,rfl,rfl,om,Ext.rfl' _⟩
 case round=>
  obtain⟨i,rfl,rfl,hi,x1⟩:=hrel;have c2:=x1.cell HN.out;have c0:=x1.cell H0.out;have h3:i=0\/i=1\/i=2:=om;rcases h3 with rfl|rfl|rfl
  ·have HC:=lh (lenS_any wr kb 0 x (H1.out.ext x1))
   go_wp2_with (go_at_call 146;refine HC.out.mono ?_;rintro e w1 ⟨rfl,y1⟩;have X2:=lh (x1.trans y1))
   go_roundw
   case rel=>exact⟨1,by go_num,by go_num,by decide,X2.out⟩
   case measure=>simp[intOf]
  ·have HC:=lh (lenS_any wr kb 8 y (H2.out.ext x1))
   go_wp2_with (go_at_call 146;refine HC.out.mono ?_;rintro e w1 ⟨rfl,y1⟩;have X2:=lh (x1.trans y1))
   go_roundw
   case rel=>exact⟨2,by go_num,by go_num,by decide,X2.out⟩
   case measure=>simp[intOf]
  ·go_wp2_with fail
   go_ret
   exact⟨rfl,x1⟩
def patC (kb:Nat):Array Value:=#[.int .i64 2,.slice none 0 0,.slice (some ⟨kb,0,none⟩) 2 2,.int .i64 0,.int .i64 0,.int .i64 0,.int .i64 0,.bool false,.int .i64 0,.bool false]
theorem patC_ct {w:World}{gp kb:Nat}{x y:Int}(h:Blk w gp 28 (patC kb))(h1:LfAt w kb 0 x)(h2:LfAt w kb 8 y):CtAt w gp 0 kb x y:=by
 refine⟨.int .i64 0,.int .i64 0,fun i hi=>?_,h1,h2⟩;have hi8:i<8:=by simpa[Nd.cs,ndC] using hi
 rw[Nat.zero_add,h.cell i];have:i=0\/i=1\/i=2\/i=3\/i=4\/i=5\/i=6\/i=7:=om;rcases this with rfl|rfl|rfl|rfl|rfl|rfl|rfl|rfl<;>rfl
theorem validC_any (w:World)(kb:Nat)(x y:Int)(T:Nat)(cs:Array Value)(hkb:Blk w kb T cs)(h1:LfAt w kb 0 x)(h2:LfAt w kb 8 y):Calls Tryz.prog 144 #[.agg (patC kb)] w (RetV (.int .i64 0) w):=by
 have X0:=Ext.alloc w (.cells (patC kb) 28);have B0:=Blk.new w 28 (patC kb);unfold patC at X0 B0;unfold patC;go_enter Tryz.func144,Tryz.ntmps144
 go_upto_region 1 with fail
 obtain⟨gp,hgp⟩:∃g,g=w.heap.size:=⟨_,rfl⟩
 rw[<-hgp] at B0 ⊢;have Hgp:=lh hgp;clear hgp;generalize w.alloc (.cells #[.int .i64 2,.slice none 0 0,.slice (some ⟨kb,0,none⟩) 2 2,.int .i64 0,.int .i64 0,.int .i64 0,.int .i64 0,.bool false,.int .i64 0,.bool false] 28)=w1 at *;have X1:=Ext.alloc w1 (.cells #[.int .i64 0] 3);have B1:=Blk.new w1 3 #[.int .i64 0]
 go_upto_region 2 with fail
 obtain⟨gs,hgs⟩:∃g,g=w1.heap.size:=⟨_,rfl⟩
 rw[<-hgs] at B1 ⊢;have Hgs:=lh hgs;clear hgs;generalize w1.alloc (.cells #[.int .i64 0] 3)=w2 at *;have B0':=B0.ext X1;have p8:w2.cell? ⟨gp,8,none⟩=some (.int .i64 0):=B0'.cell 8;have p9:w2.cell? ⟨gp,9,none⟩=some (.bool false):=B0'.cell 9;have X2:=Ext.alloc w2 (.cells #[.bool true] 4);have B2:=Blk.new w2 4 #[.bool true]
 go_upto_region 3 with fail
 obtain⟨gg,hgg⟩:∃g,g=w2.heap.size:=⟨_,rfl⟩
 rw[<-hgg] at B2 ⊢;have Hgg:=lh hgg;clear hgg;generalize w2.alloc (.cells #[.bool true] 4)=w3 at *;replace p8:=X2.cell p8;replace p9:=X2.cell p9
 go_upto_region 4 with(go_at_call 173;refine(topH_any w3).mono ?_;rintro e w4 ⟨rfl,x4⟩;have HX4:=lh x4)
 have X4:=Ext.alloc w4 (.cells #[.int .i64 255] 3);have B4:=Blk.new w4 3 #[.int .i64 255];obtain⟨gt,hgt⟩:∃g,g=w4.heap.size:=⟨_,rfl⟩
 rw[<-hgt] at B4 ⊢;have hne:gs≠gt:=by have h1:=(B1.ext X2).lt;have h2:=HX4.out.size;omega
 clear hgt;generalize w4.alloc (.cells #[.int .i64 255] 3)=w5 at *
 go_upto_region 5 with fail
 have X5:=Ext.alloc w5 (.cells #[.nilFunc] 281);have B5:=Blk.new w5 281 #[.nilFunc];obtain⟨gw,hgw⟩:∃g,g=w5.heap.size:=⟨_,rfl⟩
 rw[<-hgw] at B5 ⊢;have hlow:w5.heap.size<=gw:=om;clear hgw;generalize w5.alloc (.cells #[.nilFunc] 281)=w6 at *;have z0:w6.cell? ⟨gw,0,none⟩=some .nilFunc:=B5.cell 0;have z1:=B5.frz 0;obtain⟨FN,hFN⟩:∃FN,FN=Value.func (Fn.func 174) #[] #[.pointer (some ⟨gs,0,none⟩),.pointer (some ⟨gg,0,none⟩),.pointer (some ⟨gp,0,none⟩),.pointer (some ⟨gt,0,none⟩),.pointer (some ⟨gw,0,none⟩)]:=⟨_,rfl⟩;have B6:Blk (w6.setCell ⟨gw,0,none⟩ FN) gw 281 #[FN]:=Blk.set B5 0 FN;have X6:Ext w5 (w6.setCell ⟨gw,0,none⟩ FN):=X5.setNew (p:=⟨gw,0,none⟩) hlow FN;rw[hFN] at B6 X6;have hst:(store ⟨gw,0,none⟩ (.func (Fn.func 174) #[] #[.pointer (some ⟨gs,0,none⟩),.pointer (some ⟨gg,0,none⟩),.pointer (some ⟨gp,0,none⟩),.pointer (some ⟨gt,0,none⟩),.pointer (some ⟨gw,0,none⟩)])).run Tryz.prog w6=.ok () (w6.setCell ⟨gw,0,none⟩ (.func (Fn.func 174) #[] #[.pointer (some ⟨gs,0,none⟩),.pointer (some ⟨gg,0,none⟩),.pointer (some ⟨gp,0,none⟩),.pointer (some ⟨gt,0,none⟩),.pointer (some ⟨gw,0,none⟩)])):=by
  rw[run_store Tryz.prog w6 _ _ _ rfl,z0];simp[z1]
 go_upto_region 6 with fail
 generalize w6.setCell ⟨gw,0,none⟩ (.func (Fn.func 174) #[] #[.pointer (some ⟨gs,0,none⟩),.pointer (some ⟨gg,0,none⟩),.pointer (some ⟨gp,0,none⟩),.pointer (some ⟨gt,0,none⟩),.pointer (some ⟨gw,0,none⟩)])=w7 at *;clear hFN z0 z1 hst B5 X5;have XA:=lh (X4.trans X6);have XB:=lh (HX4.out.trans XA.out);have XC:=lh (X2.trans XB.out);have XD:=lh (X1.trans XC.out);have XE:=lh (X0.trans XD.out);have V7:VB w7 gs gg gp gt gw 0:=⟨B1.ext XC.out,B2.ext XB.out,⟨_,B0'.ext XC.out,rfl⟩,B4.ext X6,B6,hne⟩;have hct:=patC_ct (w:=w7) (B0'.ext XC.out) (h1.ext XE.out) (h2.ext XE.out);have hnv:NoV gs gg gp:=V7.noP (B0'.ext XC.out) de de;have hks:kb<w.heap.size:=hkb.lt;have hnk:NoV gs gg kb:=fun e=>by
  have a1:=Hgs.out;have a2:=Hgg.out;have a3:=X0.size;have a4:=X1.size;rcases e with e|e<;>omega
 have HC:=lh (valid1C_any w7 gs gg gp gt gw 0 V7 om gp 0 kb x y 1 om hnv hnk hct);have w00:w7.cell? ⟨gw,0,none⟩=some (.func (Fn.func 174) #[] #[.pointer (some ⟨gs,0,none⟩),.pointer (some ⟨gg,0,none⟩),.pointer (some ⟨gp,0,none⟩),.pointer (some ⟨gt,0,none⟩),.pointer (some ⟨gw,0,none⟩)]):=V7.f.cell 0;have HLO:Hid (w.heap.size<=gs/\w.heap.size<=gg):=lh (by have a1:=Hgs.out;have a2:=Hgg.out;have a3:=X0.size;have a4:=X1.size;omega);clear B0 B1 B2 B4 B6 B0' p8 p9 X0 X1 X2 x4 X4 X6 hne hct hnv hnk V7 h1 h2 hkb
 go_upto_region 7 with(go_at_call 174;refine HC.out.mono ?_;rintro e w8 ⟨rfl,v8,k8⟩;have g8:w8.cell? ⟨gg,0,none⟩=some (.bool true):=v8.g.cell 0)
 go_ret
 exact⟨rfl,Ext.kp XE.out k8 (fun i hi=>by rcases hi with rfl|rfl;exact HLO.out.1;exact HLO.out.2)⟩
def RetBo (w:World)(e:Ending)(w':World):Prop:=∃x:Bool,e=.returned (.bool x)/\Ext w w'
def PnAt (bd:Nat)(w:World)(b o d:Nat):Prop:=∃n:Nd,NdP w b o n/\TreeAt bd (fun _=>True) w d n.val
theorem PnAt.ext {bd:Nat}{w w':World}{b o d:Nat}(h:PnAt bd w b o d)(x:Ext w w'):PnAt bd w' b o d:=by
 obtain⟨n,h1,h2⟩:=h;exact⟨n,h1.ext x,h2.ext x⟩
theorem Nd.cs_of {n m:Nd}(h:n.val=m.val):n.cs=m.cs:=by
 have:=congrArg cellsOf h
 rwa [Nd.cells,Nd.cells] at this
theorem NdP.of_val {w:World}{b o:Nat}{n m:Nd}(h:NdP w b o n)(e:n.val=m.val):NdP w b o m:=fun i hi=>by
 have e2:=Nd.cs_of e;have h1:=h i (by rw[e2];exact hi);rw[h1]
 congr 1
 simp only[e2]
structure PnN (bd:Nat)(w:World)(b o d:Nat)(n:Nd):Prop where
 p:NdP w b o n
 ok:NdOk bd n
 sl:SL w n.A n.c n.l
 le:n.ks.length<=n.kc
 cap:n.kc<=maxLen
 kid:∀i,i<n.ks.length->∃kb ko,n.K=some ⟨kb,ko,none⟩/\PnAt bd w kb (ko+i*8) d
theorem PnAt.node {bd:Nat}{w:World}{b o d:Nat}(h:PnAt bd w b o (d+1)):∃n,PnN bd w b o d n:=by
 obtain⟨n,h1,h2⟩:=h;obtain⟨m,e,k1,k2,k3,k4,k5,k6⟩:=h2.node;refine⟨m,h1.of_val e,k1,k2,k3,k4,fun i hi=>?_⟩;obtain⟨kb,ko,ek,m2,e2,hc⟩:=kid_cells k5 k6 hi;refine⟨kb,ko,ek,m2,fun j hj=>?_,by rw[<-e2];exact k6 _ (List.getElem_mem hi)⟩;rw[hc j (by simpa[Nd.cs] using hj),List.getElem?_eq_getElem hj]
theorem PnAt.pos {bd:Nat}{w:World}{b o d:Nat}(h:PnAt bd w b o d):∃e,d=e+1:=by
 obtain⟨n,_,h2⟩:=h;exact h2.pos
theorem PnN.ext {bd:Nat}{w w':World}{b o d:Nat}{n:Nd}(h:PnN bd w b o d n)(x:Ext w w'):PnN bd w' b o d n:=
 ⟨h.p.ext x,h.ok,h.sl.ext x,h.le,h.cap,fun i hi=>by
  obtain⟨kb,ko,e,hp⟩:=h.kid i hi;exact⟨kb,ko,e,hp.ext x⟩⟩
theorem NdP.c8 {w:World}{b o:Nat}{n:Nd}(h:NdP w b o n):w.cell? ⟨b,o,none⟩=some (.int .i64 n.op)/\w.cell? ⟨b,o+1,none⟩=some (.slice n.A n.l.length n.c)/\w.cell? ⟨b,o+2,none⟩=some (.slice n.K n.ks.length n.kc)/\w.cell? ⟨b,o+3,none⟩=some (.int .i64 n.mn)/\
 w.cell? ⟨b,o+4,none⟩=some (.int .i64 n.mx)/\w.cell? ⟨b,o+5,none⟩=some (.int .i64 n.md)/\w.cell? ⟨b,o+6,none⟩=some (.int .i64 n.n)/\w.cell? ⟨b,o+7,none⟩=some (.bool n.neg):=
 ⟨h 0 (by simp[Nd.cs]),h 1 (by simp[Nd.cs]),h 2 (by simp[Nd.cs]),h 3 (by simp[Nd.cs]),h 4 (by simp[Nd.cs]),h 5 (by simp[Nd.cs]),h 6 (by simp[Nd.cs]),h 7 (by simp[Nd.cs])⟩
theorem hspans_any (w:World)(A:Option Addr)(c:Nat)(l:List Sp)(top:Int)(hs:SL w A c l)(ho:SetOk l)(ht:255<=top/\top<=1114111):Calls Tryz.prog 206 #[.slice A l.length c,.int .i64 top] w (RetBo w):=by
 have hl2:=ho.1;have hrg:∀i (h:i<l.length),0<=l[i].1/\l[i].1<=l[i].2/\l[i].2<=255:=fun i h=>by
  have h1:=ho.2 l[i] (List.getElem_mem h);obtain⟨⟨_,h2⟩,h3,h4⟩:=h1;refine⟨h3,h4,?_⟩;simp only[List.mem_cons,List.not_mem_nil,or_false] at h2;omega
 have hlc:=hs.len;have HS:=lh hs;have HR:=lh hrg;clear hs ho hrg;go_enter Tryz.func206,Tryz.ntmps206
 go_upto_region 4 with fail
 go_loopw [12] (fun v wr=>∃i:Nat,v=.int .i64 i/\i<=l.length/\Ext w wr) (fun v _=>l.length-(intOf v).toNat)
 case atStart=>exact⟨0,rfl,om,Ext.rfl' _⟩
 case round=>
  obtain⟨i,rfl,hi,x1⟩:=hrel;by_cases hlt:i<l.length
  ·obtain⟨sb,so,rfl,c0,c1⟩:=(HS.out.ext x1).get hlt;obtain⟨r1,r2,r3⟩:=HR.out i hlt;have HX1:=lh x1;have hprev:∀(hp:0<i),∃y,y<=255/\0<=y/\wr.cell? ⟨sb,so+(i-1)*2+1,none⟩=some (.int .i64 y):=fun hp=>by
    obtain⟨sb',so',e,_,c1'⟩:=(HS.out.ext x1).get (k:=i-1) om;injection e with e;injection e with e1 e2;subst e1 e2
    have:=HR.out (i-1) om;exact⟨_,this.2.2,om,c1'⟩
   generalize l[i].1=lo at *;generalize l[i].2=hi2 at *;have HP:=lh hprev;clear x1 hprev
   go_upto_region 6 with fail
   have XN:=Ext.alloc wr (.cells #[.int .i64 lo,.int .i64 hi2] 38);have BN:=Blk.new wr 38 #[.int .i64 lo,.int .i64 hi2];obtain⟨g,hg⟩:∃g,g=wr.heap.size:=⟨_,rfl⟩
   rw[<-hg] at BN ⊢;clear hg;generalize wr.alloc (.cells #[.int .i64 lo,.int .i64 hi2] 38)=w5 at *;obtain⟨e0,e1,_⟩:=BN.c2;have d0:=kc0 e0;have d1:=kc0 e1;have HXN:=lh (HX1.out.trans XN);have h1:¬lo<0:=om;have h2:¬hi2>top:=om;have h3:¬top<hi2:=om;have h4:¬hi2<lo:=om;clear c0 c1 e0 e1 BN;rcases Nat.eq_zero_or_pos i with h0|h0
   ·subst h0;clear XN HP;refine Xr.start [] kr ?_;refine Xtk 0 ?_
    iterate 3(refine Xtn ?_)
    iterate 5(first|refine Xtn ?_|refine Xsn ?_)
    iterate 2(refine Xtn ?_)
    iterate 4(first|refine Xtn ?_|refine Xsn ?_)
    iterate 2(refine Xtn ?_)
    iterate 14(first|refine Xtn ?_|refine Xsn ?_)
    refine Xtn ?_;refine Xdn fun w6 hE6 hK6=>?_;have HX6:=HXN.out.trans hK6.nil;clear d0 d1
    go_wp2_with fail
    go_roundw
    case rel=>exact⟨1,by go_num,om,HX6⟩
    case measure=>simp[intOf];omega
   ·obtain⟨y,y1,y2,yc⟩:=HP.out h0;obtain rfl:i=1:=om;have yc2:w5.cell? ⟨sb,so+1,none⟩=some (.int .i64 y):=by have:=XN.cell yc;simpa using this
    have d2:=kc0 yc2;have hw:IntKind.i64.wrap (y+2)=y+2:=wj;have hw0:IntKind.i64.wrap 0=0:=by rfl
    have h5:(0:Int)<(l.length:Int):=om;have h6:0<l.length:=om;clear XN HP yc yc2;refine Xr.start [] kr ?_;refine Xtk 0 ?_
    iterate 3(refine Xtn ?_)
    iterate 5(first|refine Xtn ?_|refine Xsn ?_)
    iterate 2(refine Xtn ?_)
    iterate 4(first|refine Xtn ?_|refine Xsn ?_)
    iterate 2(refine Xtn ?_)
    iterate 14(first|refine Xtn ?_|refine Xsn ?_)
    refine Xtn ?_;refine Xdn fun w6 hE6 hK6=>?_;have HX6:=HXN.out.trans hK6.nil;clear d0 d1 d2
    go_wp2_with fail
    ·go_ret
     exact⟨_,rfl,HX6⟩
    ·go_roundw
     case rel=>exact⟨2,by go_num,om,HX6⟩
     case measure=>simp[intOf];omega
  ·have hle:(l.length:Int)<=i:=om
   go_wp2_with fail
   go_ret
   exact⟨_,rfl,x1⟩
def RetP2 (wE:World)(base gc:Nat)(A:Option Addr)(hs:List Hin)(h:Hin)(w:World)(e:Ending)(w':World):Prop:=e=.returned (.int .i64 hs.length)/\(∃(A':Option Addr) (c':Nat),Blk w' gc 46 #[.slice A' (hs++[h]).length c']/\OwnS w' base 126 5 A' (hs++[h]).length c' (flatN (hs++[h]))/\(A'.map (·.block)=A.map (·.block)\/∀b,A'.map (·.block)=some b->w.heap.size<=b))/\RetCX wE base gc (hs++[h]) w w'/\KpP (CQ gc A) w w'
theorem hput2_any (wE w:World)(base gc:Nat)(hE:wE.heap.size<=base)(hbg:base<=gc)(xE:Ext wE w)(hbw:base<=w.heap.size)(hs:List Hin)(A:Option Addr)(c:Nat)(hb:Blk w gc 46 #[.slice A hs.length c])(hown:OwnS w base 126 5 A hs.length c (flatN hs))(hit:∀h∈hs,h.wf/\OwnP w 0 h.A h.c h.l/\∀s∈h.l,I64 s.1/\I64 s.2)(hl:hs.length<=100000)(h:Hin)(hw:h.wf)(ho:OwnP w 0 h.A h.c h.l)(hi:∀s∈h.l,I64 s.1/\I64 s.2) :
 Calls Tryz.prog 178 #[.agg #[.int .i64 h.op,.int .i64 h.x,.int .i64 h.y,.int .i64 h.n,.slice h.A h.l.length h.c],.pointer (some ⟨gc,0,none⟩)] w (RetP2 wE base gc A hs h w):=by
 obtain⟨iN,jN0,jN1,jN2,jN3⟩:=info_parts infoIs;have X0:=Ext.alloc w (.cells #[.int .i64 h.op,.int .i64 h.x,.int .i64 h.y,.int .i64 h.n,.slice h.A h.l.length h.c] 126);have B0:=Blk.new w 126 #[.int .i64 h.op,.int .i64 h.x,.int .i64 h.y,.int .i64 h.n,.slice h.A h.l.length h.c];go_enter Tryz.func178,Tryz.ntmps178
 go_upto_region 1 with fail
 obtain⟨gi,hgi⟩:∃g,g=w.heap.size:=⟨_,rfl⟩
 rw[<-hgi] at B0 ⊢;have HGI:=lh hgi;clear hgi;generalize w.alloc (.cells #[.int .i64 h.op,.int .i64 h.x,.int .i64 h.y,.int .i64 h.n,.slice h.A h.l.length h.c] 126)=w1 at *;have c0:w1.cell? ⟨gc,0,none⟩=some (.slice A hs.length c):=(hb.ext X0).cell 0;have i0:w1.cell? ⟨gi,0,none⟩=some (.int .i64 h.op):=B0.cell 0;have i1:w1.cell? ⟨gi,1,none⟩=some (.int .i64 h.x):=B0.cell 1;have i2:w1.cell? ⟨gi,2,none⟩=some (.int .i64 h.y):=B0.cell 2;have i3:w1.cell? ⟨gi,3,none⟩=some (.int .i64 h.n):=B0.cell 3;have i4:w1.cell? ⟨gi,4,none⟩=some (.slice h.A h.l.length h.c):=B0.cell 4;have X1:=Ext.alloc w1 (.cells #[.int .i64 h.op,.int .i64 h.x,.int .i64 h.y,.int .i64 h.n,.slice h.A h.l.length h.c] 126);have B1:Blk (w1.alloc (.cells #[.int .i64 h.op,.int .i64 h.x,.int .i64 h.y,.int .i64 h.n,.slice h.A h.l.length h.c] 126)) w1.heap.size 126 (flatN [h]).toArray:=Blk.new w1 126 #[.int .i64 h.op,.int .i64 h.x,.int .i64 h.y,.int .i64 h.n,.slice h.A h.l.length h.c];have HOW:=lh ((OwnS.ext hown X0).ext X1);have hsz:=X0.size;have hsz1:=X1.size;have HB1:=(hb.ext X0).ext X1;have hcl:CellsAt (w1.alloc (.cells #[.int .i64 h.op,.int .i64 h.x,.int .i64 h.y,.int .i64 h.n,.slice h.A h.l.length h.c] 126)) (some ⟨w1.heap.size,0,none⟩) (flatN [h]):=blk_cells B1;have HFL:=lh (flatN_one [h]);have h63:hs.length+1<=maxLen:=by unfold maxLen;omega
 have h64:(hs.length+1)*56<=140737488355328:=om;have hbz:base<=(w1.alloc (.cells #[.int .i64 h.op,.int .i64 h.x,.int .i64 h.y,.int .i64 h.n,.slice h.A h.l.length h.c] 126)).heap.size:=om;have H63:=lh (And.intro h63 (And.intro h64 hbz));have f0:=HB1.frz 0;clear h63 h64 hbz;have XW:=lh (X0.trans X1);have HPOST:∀(A':Option Addr) (c':Nat) (w2:World),OwnS w2 base 126 5 A' (hs.length+1) c' (flatN hs++flatN [h])->(w1.alloc (.cells #[.int .i64 h.op,.int .i64 h.x,.int .i64 h.y,.int .i64 h.n,.slice h.A h.l.length h.c] 126)).grownBy w2 (A.map (·.block))->(A'.map (·.block)=A.map (·.block)\/A'.map (·.block)=some (w1.alloc (.cells #[.int .i64 h.op,.int .i64 h.x,.int .i64 h.y,.int .i64 h.n,.slice h.A h.l.length h.c] 126)).heap.size)->
  Hid (Blk w2 gc 46 #[.slice A hs.length c]/\Blk (w2.setCell ⟨gc,0,none⟩ (.slice A' (hs.length+1) c')) gc 46 #[.slice A' (hs.length+1) c']/\(∃(A3:Option Addr) (c3:Nat),Blk (w2.setCell ⟨gc,0,none⟩ (.slice A' (hs.length+1) c')) gc 46 #[.slice A3 (hs++[h]).length c3]/\OwnS (w2.setCell ⟨gc,0,none⟩ (.slice A' (hs.length+1) c')) base 126 5 A3 (hs++[h]).length c3 (flatN (hs++[h]))/\(A3.map (·.block)=A.map (·.block)\/∀b,A3.map (·.block)=some b->w.heap.size<=b))/\RetCX wE base gc (hs++[h]) w (w2.setCell ⟨gc,0,none⟩ (.slice A' (hs.length+1) c'))/\KpP (CQ gc A) w (w2.setCell ⟨gc,0,none⟩ (.slice A' (hs.length+1) c'))):=fun A' c' w2 ho2 hg2 hat2=>lh (by
  have hA:∀b,A.map (·.block)=some b->∃cur,(w1.alloc (.cells #[.int .i64 h.op,.int .i64 h.x,.int .i64 h.y,.int .i64 h.n,.slice h.A h.l.length h.c] 126)).heap[b]? = some (.cells cur 126 (0,0)):=fun b e=>by
   rcases OwnS.form HOW.out with⟨rfl,_⟩|⟨g,cur,rfl,_,hh,_⟩
   ·cases e
   ·injection e with e;subst e;exact⟨cur,hh⟩
  have kg:=KpP.of_grown hg2;have keep1:KeepN gc w w2:=fun b T cs hb' hT hne=>by
   refine kg.blk (hb'.ext XW.out) (fun e=>?_);obtain⟨cur,hh⟩:=hA b e;exact Blk.neT (hb'.ext XW.out) hh hT rfl
  have hb2:Blk w2 gc 46 #[.slice A hs.length c]:=by
   refine kg.blk HB1 (fun e=>?_);obtain⟨cur,hh⟩:=hA gc e;exact Blk.neT HB1 hh de rfl
  have hb3:Blk (w2.setCell ⟨gc,0,none⟩ (.slice A' (hs.length+1) c')) gc 46 #[.slice A' (hs.length+1) c']:=Blk.set hb2 0 _;have keep2:KeepN gc w (w2.setCell ⟨gc,0,none⟩ (.slice A' (hs.length+1) c')):=fun b T cs hb' hT hne=>(keep1 b T cs hb' hT hne).far hne _;have hA2:A'.map (·.block)≠some gc:=fun e=>by
   rcases OwnS.form ho2 with⟨rfl,_⟩|⟨g,cur,rfl,_,hh,_⟩
   ·cases e
   ·injection e with e;exact Blk.neT hh hb2 de e
  have hatW:A'.map (·.block)=A.map (·.block)\/∀b,A'.map (·.block)=some b->w.heap.size<=b:=by
   rcases hat2 with e|e
   ·exact .inl e
   ·refine .inr (fun b hb=>?_);rw[e] at hb;injection hb with hb
    have:=XW.out.size;omega
  refine⟨hb2,hb3,⟨A',c',by rw[List.length_append];exact hb3,by rw[List.length_append,flatN_append];exact ho2.far hA2 _,hatW⟩,⟨⟨⟨A',c',?_,?_⟩,fun z hz=>?_⟩,?_,keep2⟩,?_⟩
  ·rw[List.length_append];exact hb3
  ·rw[List.length_append,flatN_append];exact ho2.far hA2 _
  ·rcases List.mem_append.1 hz with hz|hz
   ·obtain⟨q1,q2,q3⟩:=hit z hz;exact⟨q1,OwnS.keepN q2 keep2 de (OwnP.ne_gc q2 hb),q3⟩
   ·rw[List.mem_singleton.1 hz];exact⟨hw,OwnS.keepN ho keep2 de (OwnP.ne_gc ho hb),hi⟩
  ·have xb:Ext wE (w1.alloc (.cells #[.int .i64 h.op,.int .i64 h.x,.int .i64 h.y,.int .i64 h.n,.slice h.A h.l.length h.c] 126)):=xE.trans XW.out;exact(xb.grown hg2 (fun k e=>by have:=OwnS.row HOW.out k e;omega)).setNew (p:=⟨gc,0,none⟩) (by show wE.heap.size<=gc;omega) _
  ·exact((KpP.of_ext XW.out).trans (kg.mono (fun k e=>.inr e))).set (x:=⟨gc,0,none⟩) (.inl (.inl rfl)) _)
 have HLL:Hid (((hs.length:Int)+1:Int)-1=hs.length):=lh om;clear hb hown hit X0 X1 B0 B1 HB1 ho hi
 go_upto_region 2 with(at_builtin;refine wpList_app _ rfl _ _ _ rfl base 126 iN _ 5 56 Tryz.underlying46 jN0 jN1 jN2 jN3 rfl om A hs.length c (flatN hs) rfl HOW.out _ 1 1 (flatN [h]) rfl rfl hcl HFL.out H63.out.1 H63.out.2.1 H63.out.2.2 ?_;intro A' c' w2 ho2 hg2 hat2;have HP:=HPOST A' c' w2 ho2 hg2 hat2;have z0:=HP.out.1.cell 0;have z1:=HP.out.1.frz 0)
 have HP2:=lh HP.out.2.2;have q0:=HP.out.2.1.cell 0;generalize w2.setCell ⟨gc,0,none⟩ (.slice A' (hs.length+1) c')=w3 at *;have q0:w3.cell? ⟨gc,0,none⟩=some (.slice A' (hs.length+1) c'):=q0;clear HP z0 z1 hg2 ho2 hat2 HPOST HOW hcl
 go_wp2_with fail
 go_ret
 exact⟨by first|rfl|(congr 2;omega),HP2.out⟩
structure WB4 (w:World)(gc gq gw ga gr:Nat):Prop where
 wb:WB w gc gq gw ga gr
 r:Blk w gr 284 #[.func (Fn.func 179) #[] #[.pointer (some ⟨gw,0,none⟩),.pointer (some ⟨gq,0,none⟩),.pointer (some ⟨gc,0,none⟩)]]
 a:Blk w ga 286 #[.func (Fn.func 181) #[] #[.pointer (some ⟨gq,0,none⟩),.pointer (some ⟨gw,0,none⟩),.pointer (some ⟨gc,0,none⟩)]]
theorem WB4.ext {w w':World}{gc gq gw ga gr:Nat}(h:WB4 w gc gq gw ga gr)(x:Ext w w'):WB4 w' gc gq gw ga gr:=⟨h.wb.ext x,h.r.ext x,h.a.ext x⟩
theorem WB4.keep {w w':World}{gc gq gw ga gr:Nat}{cs:Array Value}(h:WB4 w gc gq gw ga gr)(hb:Blk w gc 46 cs)(k:KeepN gc w w'):WB4 w' gc gq gw ga gr:=
 ⟨h.wb.keep hb k,k _ _ _ h.r de (Blk.neT h.r hb de),k _ _ _ h.a de (Blk.neT h.a hb de)⟩
structure CS (wE:World)(base gc gq gw ga gr:Nat)(w:World)(A:Option Addr)(c:Nat)(hs:List Hin):Prop where
 b:Blk w gc 46 #[.slice A hs.length c]
 o:OwnS w base 126 5 A hs.length c (flatN hs)
 it:∀h∈hs,h.wf/\OwnP w 0 h.A h.c h.l/\(∀s∈h.l,I64 s.1/\I64 s.2)/\SetE rimE h.l
 bx:WB4 w gc gq gw ga gr
 x:Ext wE w
structure CT (gc:Nat)(A:Option Addr)(w:World)(A':Option Addr)(w':World):Prop where
 kp:KpP (CQ gc A) w w'
 nw:A'.map (·.block)=A.map (·.block)\/∀b,A'.map (·.block)=some b->w.heap.size<=b
 kn:KeepN gc w w'
theorem CT.refl (gc:Nat)(A:Option Addr)(w:World):CT gc A w A w:=⟨KpP.refl _ _,.inl rfl,KeepN.refl _ _⟩
theorem CT.of_ext (gc:Nat)(A:Option Addr){w w':World}(x:Ext w w'):CT gc A w A w':=⟨KpP.of_ext x,.inl rfl,KeepN.of_ext x⟩
theorem CT.trans {gc:Nat}{A A1 A2:Option Addr}{w w1 w2:World}(h:CT gc A w A1 w1)(k:CT gc A1 w1 A2 w2):CT gc A w A2 w2:=by
 refine⟨⟨k.kp.os.trans h.kp.os,k.kp.tape.trans h.kp.tape,k.kp.output.trans h.kp.output,Nat.le_trans h.kp.size k.kp.size,fun i hi hn=>?_⟩,?_,h.kn.trans k.kn⟩
 ·rw[k.kp.block i (Nat.lt_of_lt_of_le hi h.kp.size) (fun hq=>?_)]
  ·exact h.kp.block i hi hn
  ·rcases hq with hq|hq
   ·exact hn (.inl hq)
   ·rcases h.nw with e|e
    ·exact hn (.inr (by rw[<-e];exact hq))
    ·have:=e i hq;omega
 ·rcases k.nw with e|e
  ·rcases h.nw with e2|e2
   ·exact .inl (e.trans e2)
   ·exact .inr (fun b hb=>e2 b (by rw[<-e];exact hb))
  ·exact .inr (fun b hb=>Nat.le_trans h.kp.size (e b hb))
section
variable {wE w w':World} {base gc gq gw ga gr c:Nat} {A:Option Addr} {hs:List Hin}
theorem CS.ext (h:CS wE base gc gq gw ga gr w A c hs)(x:Ext w w'):CS wE base gc gq gw ga gr w' A c hs:=
 ⟨h.b.ext x,OwnS.ext h.o x,fun z hz=>⟨(h.it z hz).1,OwnS.ext (h.it z hz).2.1 x,(h.it z hz).2.2⟩,h.bx.ext x,h.x.trans x⟩
end
def RetPt (wE:World)(base gc gq gw ga gr:Nat)(w:World)(A:Option Addr)(hs:List Hin)(h:Hin)(e:Ending)(w':World):Prop:=
 ∃(A':Option Addr) (c':Nat),e=.returned (.int .i64 hs.length)/\CS wE base gc gq gw ga gr w' A' c' (hs++[h])/\CT gc A w A' w'
theorem hput_cs (wE w:World)(base gc gq gw ga gr:Nat)(hE:wE.heap.size<=base)(hbg:base<=gc)(A:Option Addr)(c:Nat)(hs:List Hin)(hc:CS wE base gc gq gw ga gr w A c hs)(hl:hs.length<=100000)(hbw:base<=w.heap.size)
 (h:Hin) (hw:h.wf) (ho:OwnP w 0 h.A h.c h.l) (hi:∀s∈h.l,I64 s.1/\I64 s.2) (hse:SetE rimE h.l) :
 Calls Tryz.prog 178 #[.agg #[.int .i64 h.op,.int .i64 h.x,.int .i64 h.y,.int .i64 h.n,.slice h.A h.l.length h.c],.pointer (some ⟨gc,0,none⟩)] w (RetPt wE base gc gq gw ga gr w A hs h):=by
 refine(hput2_any wE w base gc hE hbg hc.x hbw hs A c hc.b hc.o (fun z hz=>⟨(hc.it z hz).1,(hc.it z hz).2.1,(hc.it z hz).2.2.1⟩) hl h hw ho hi).mono ?_;rintro e w' ⟨rfl,⟨A',c',h1,h2,h3⟩,h4,h5⟩;refine⟨A',c',rfl,⟨h1,h2,fun z hz=>?_,hc.bx.keep hc.b h4.2.2,h4.2.1⟩,h5,h3,h4.2.2⟩;obtain⟨q1,q2,q3⟩:=h4.1.it z hz;refine⟨q1,q2,q3,?_⟩;rcases List.mem_append.1 hz with hz|hz
 ·exact(hc.it z hz).2.2.2
 ·rw[List.mem_singleton.1 hz];exact hse
theorem bndEnd {P:Prop}(h:P:=by
 refine Xr.start [] kr ?_;refine Xtk 0 ?_
 iterate 5(refine Xtn ?_)
 iterate 23(first|refine Xtn ?_|refine Xsn ?_)
 iterate 2(refine Xtn ?_)
 refine Xdn fun w6 hE6 hK6=>?_;have HX6:=hK6.nil;clear d3 d4
 go_wp2_with fail
 go_ret
 exact⟨_,rfl,HX6⟩):P:=h
theorem hbounded_any (w:World)(b o:Nat)(n:Nd)(hn:NdP w b o n)(h1:0<=n.mn)(h2 : -1<=n.mx)(h3:0<=n.md/\n.md<=1):Calls Tryz.prog 207 #[.pointer (some ⟨b,o,none⟩)] w (RetBo w):=by
 obtain⟨_,_,_,c3,c4,c5,_⟩:=hn.c8;generalize n.mn=mn at *;generalize n.mx=mx at *;generalize n.md=md at *;have e1:¬mn<0:=om;have e2:¬md<0:=om;have e3:¬md>2:=om;have e4:¬(2:Int)<md:=om;clear hn;by_cases h4:(32:Int)<mn
 ·go_enter Tryz.func207,Tryz.ntmps207
  go_wp2_with fail
  go_ret
  exact⟨_,rfl,Ext.rfl' _⟩
 ·have d3:=kc0 c3;have d4:=kc0 c4;have e5:¬mn>32:=om;go_enter Tryz.func207,Tryz.ntmps207
  go_upto_region 3 with fail
  clear c3 c4 c5;by_cases g1:mx = -1
  ·subst g1;exact bndEnd
  ·have g1b:(mx == -1)=false:=by simpa using g1
   by_cases g2:1<=mx
   ·have g2b:mx>=1:=g2;by_cases g3:mx<=32
    ·by_cases g4:mn<=mx
     ·have g4b:mx>=mn:=g4;exact bndEnd
     ·have g4b:¬mx>=mn:=g4;exact bndEnd
    ·exact bndEnd
   ·have g2b:¬mx>=1:=g2;exact bndEnd
section
variable {P:Program} (w:World)
theorem run_appKeep (base t ty e:Nat)(i:TypeInfo)(z:Value)(ht:P.underlying t=some (.slice e))(hi:P.info? e=some i)(hz:i.zero=some z)
 (hsize:i.size=1) (hby:i.bytes=8) (hzs:z.cells.size=1)
 (A:Option Addr) (n c:Nat) (xs:List Value) (hown:OwnS w base e 1 A n c xs)
 (ad:Addr) (d:Nat) (v:Value) (hr:∀j u,[v][j]? = some u->w.cell? (ad.add j)=some u) (h1:v.oneCell'=true)
 (h63:n+1<=1000000) (hbase:base<=w.heap.size) :
 ∃A' c' w',(Builtin.append_ #[t,t] ty #[.slice A n c,.slice (some ad) 1 d]).run P w=.ok (.slice A' (n+1) c') w'/\OwnS w' base e 1 A' (n+1) c' (xs++[v])/\
  w.grownBy w' (A.map (·.block))/\OwnS w' base e 1 A n c xs/\((A'=A/\c'=c)\/A'.map (·.block)=some w.heap.size):=by
 have hcl:CellsAt w (some ⟨ad.block,ad.off,none⟩) [v]\/True:=.inr trivial;have h63':n+1<=maxLen:=by unfold maxLen;omega
 obtain⟨v',w',hrun,h2,h3,_,h5⟩:=run_append_own_at (P:=P) w base t ty e i z 1 8 ht hi hz hsize hby hzs om _ n xs hown ad 1 d [v] rfl hr (by intro u hu;rw[List.mem_singleton.1 hu];exact h1) h63' om hbase;have hob:(Value.slice A n c).ownBlock=A.map (·.block):=by cases A<;>rfl
 rw[hob] at h3 h5;obtain⟨A',c',rfl⟩:∃A' c',v'=.slice A' (n+1) c':=by
  rcases h2.2 with⟨_,h0⟩|⟨g,cap,cur,rfl,_⟩
  ·omega
  ·exact⟨_,_,rfl⟩
 have hob':(Value.slice A' (n+1) c').ownBlock=A'.map (·.block):=by cases A'<;>rfl
 rw[hob'] at h5;refine⟨A',c',w',hrun,h2,h3,?_⟩;rcases OwnS.form hown with⟨rfl,rfl,rfl,rfl⟩|⟨g,cur,rfl,hb,hh,hnc,hcm,hcs,htk⟩
 ·refine⟨OwnS.nil _ _ _ _,.inr ?_⟩;rcases h5 with h5|h5
  ·rcases OwnS.form (xs:=[]++[v]) h2 with⟨rfl,h0,_⟩|⟨g2,_,rfl,_⟩
   ·omega
   ·cases h5
  ·exact h5
 ·by_cases hroom:n+1<=c
  ·have hr2:=run_append_room (P:=P) w t ty e i ht hi g n c cur hh ad 1 d [v] (by simp[hsize]) hr (by intro u hu;rw[List.mem_singleton.1 hu];exact h1) hroom (by rw[hsize];simp only[List.length_cons,List.length_nil];omega);rw[hrun] at hr2;injection hr2 with e1 e2
   injection e1 with e3 e4 e5
   refine⟨?_,.inl ⟨e3,e5⟩⟩;rw[e2];refine⟨hown.1,.inr ⟨g,c,_,rfl,hb,setRow_heap w g cur _ e _ hh,hnc,hcm,?_,?_⟩⟩
   ·simp only[List.size_toArray,List.length_append,List.length_take,List.length_drop,Array.length_toList,List.length_cons,List.length_nil,hsize];omega
   ·rw[hsize,List.append_assoc,List.take_append_of_le_length (by rw[List.length_take,Array.length_toList];omega),List.take_take,Nat.min_self];exact htk
  ·have holds:∀j u,xs[j]? = some u->w.cell? ((⟨g,0,none⟩:Addr).add j)=some u:=World.ownsRow.cells hown (g:=g) rfl;have hr2:=run_append_grow (P:=P) w t ty e i z ht hi hz ⟨g,0,none⟩ n c xs (by rw[hsize];exact hown.1) holds ad 1 d [v] (by simp[hsize]) hr om om (by rw[hby];exact growslice_fits om om);rw[hrun] at hr2;injection hr2 with e1 e2
   injection e1 with e3 e4 e5
   refine⟨?_,.inr (by rw[e3];rfl)⟩;rw[e2];exact OwnS.ext hown ((Ext.drew w).trans (Ext.alloc _ _))
theorem wpList_appKeep {ops:Array Oper}{rest:List Oper}{o:Oper}{a:Act}{Q:Exit->Act->World->Prop}(hgd:o.guard=none)(s x:Operand)(t:Nat)
 (ho:o.op=.call { callee:=.builtin .append,args:=#[s,x],argTypes:=#[t,t] })
 (base e:Nat) (i:TypeInfo) (z:Value) (ht:P.underlying t=some (.slice e)) (hi:P.info? e=some i) (hz:i.zero=some z)
 (hsize:i.size=1) (hby:i.bytes=8) (hzs:z.cells.size=1)
 (A:Option Addr) (n c:Nat) (xs:List Value) (hs:a.eval s=.slice A n c) (hown:OwnS w base e 1 A n c xs)
 (ad:Addr) (d:Nat) (v:Value) (hx:a.eval x=.slice (some ad) 1 d) (hr:∀j u,[v][j]? = some u->w.cell? (ad.add j)=some u) (h1:v.oneCell'=true)
 (h63:n+1<=1000000) (hbase:base<=w.heap.size)
 (h:∀A' c' w',OwnS w' base e 1 A' (n+1) c' (xs++[v])->w.grownBy w' (A.map (·.block))->OwnS w' base e 1 A n c xs->((A'=A/\c'=c)\/A'.map (·.block)=some w.heap.size)->
  wpList P ops Q rest (a.put o.dst (.slice A' (n+1) c')) w'):wpList P ops Q (o::rest) a w:=
 wpList_plain hgd fun K hK=>by
  obtain⟨A',c',w',hrun,h2,h3,h4,h5⟩:=run_appKeep (P:=P) w base t o.type e i z ht hi hz hsize hby hzs A n c xs hown ad d v hr h1 h63 hbase;unfold Oper.wp execOp;simp only[ho,resolve,invoke,builtin,Sem.run_bind,Sem.run_pure,Result.andThen_ok,List.map_toArray,List.map_cons,List.map_nil,hs,hx,hrun];exact hK _ _ (h A' c' w' h2 h3 h4 h5)
end
def RetNu (w:World)(e:Ending)(w':World):Prop:=∃k:Int,e=.returned (.int .i64 k)/\Ext w w'
theorem hlen_step (bd d:Nat)
 (IH:∀(w:World) (b o:Nat) (_:PnAt bd w b o d),Calls Tryz.prog 146 #[.pointer (some ⟨b,o,none⟩)] w (RetNu w))
 (w:World) (b o:Nat) (hp:PnAt bd w b o (d+1)):Calls Tryz.prog 146 #[.pointer (some ⟨b,o,none⟩)] w (RetNu w):=by
 obtain⟨n,hn⟩:=hp.node;have HN:=lh hn;have hcap:n.ks.length<=n.kc/\n.kc<=9223372036854775807:=⟨hn.le,by have:=hn.cap;unfold maxLen at this;omega⟩;have hfew:n.ks.length<=3:=hn.ok.few;have hop:=hn.ok.op;obtain⟨_,_,c2,_⟩:=hn.p.c8;clear hn hp;go_enter Tryz.func146,Tryz.ntmps146
 go_upto_region 3 with fail
 clear c2
 go_loopw [3,11] (fun v3 v wr=>∃(i:Nat) (kk:Int),v3=.int .i64 kk/\v=.int .i64 i/\i<=n.ks.length/\Hid (Ext w wr)) (fun _ v _=>n.ks.length-(intOf v).toNat)
 case atStart=>exact⟨0,0,rfl,rfl,Nat.zero_le _,lh (Ext.rfl' _)⟩
 case round=>
  obtain⟨i,kk,rfl,rfl,hi,XR⟩:=hrel;have HNr:=lh (HN.out.ext XR.out);by_cases hlt:i<n.ks.length
  ·obtain⟨kb,ko,eK,HKID⟩:=HNr.out.kid i hlt;have cr:=HNr.out.p.c8.2.2.1;rw[eK] at cr;clear eK;have HI:=lh (IH wr kb (ko+i*8) HKID);clear HKID
   go_wp2_with (go_at_call 146;refine HI.out.mono ?_;rintro e w6 ⟨z,rfl,x6⟩;have X6:=lh (XR.out.trans x6);clear x6)
   all_goals
    go_roundw
    case rel=>exact⟨i+1,_,rfl,by go_num,om,X6⟩
    case measure=>simp[intOf];omega
  ·have hle:(n.ks.length:Int)<=i:=om;obtain⟨c0,_,c2,c3,c4,_⟩:=HNr.out.p.c8;generalize n.op=op at *;generalize n.mn=mn at *;generalize n.mx=mx at *;rcases hop with rfl|rfl|rfl|rfl|rfl|rfl|rfl
   ·go_wp2
    all_goals
     go_ret
     exact⟨_,rfl,XR.out⟩
   ·go_wp2
    all_goals
     go_ret
     exact⟨_,rfl,XR.out⟩
   ·go_wp2
    all_goals
     go_ret
     exact⟨_,rfl,XR.out⟩
   ·go_wp2
    all_goals
     go_ret
     exact⟨_,rfl,XR.out⟩
   ·by_cases hm:mx = -1
    ·go_wp2
     all_goals
      go_ret
      exact⟨_,rfl,XR.out⟩
    ·have hmb:(mx == -1)=false:=by simpa using hm
     have d3:=kc0 c3;have d4:=kc0 c4
     go_upto_region 20 with fail
     refine Xr.start [] kr ?_;refine Xtk 0 ?_
     iterate 14(refine Xtn ?_)
     refine Xdn fun w7 hE7 hK7=>?_;have X7:=lh (XR.out.trans hK7.nil);clear hE7 hK7 d3 d4
     go_wp2_with fail
     all_goals
      go_ret
      exact⟨_,rfl,X7.out⟩
   ·go_wp2
    all_goals
     go_ret
     exact⟨_,rfl,XR.out⟩
   ·go_wp2
    all_goals
     go_ret
     exact⟨_,rfl,XR.out⟩
theorem hlen_any (bd:Nat):∀(d:Nat) (w:World) (b o:Nat) (_:PnAt bd w b o d),Calls Tryz.prog 146 #[.pointer (some ⟨b,o,none⟩)] w (RetNu w)
 | 0,w,b,o,hp=>by obtain⟨e,he⟩:=hp.pos;omega
 | d+1,w,b,o,hp=>hlen_step bd d (hlen_any bd d) w b o hp
end
end Go.Proofs.YtmocoldobnimfaaGreat
