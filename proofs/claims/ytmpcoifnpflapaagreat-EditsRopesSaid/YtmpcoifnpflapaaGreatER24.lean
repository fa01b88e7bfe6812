/- Texts of this proof: M1 M4 M5 M6 M3 M2 M7. -/
import Derived.Test.YtmpcoifnpflapaaGreatER12
import Derived.Test.YtmpcoifnpflapaaGreatER21
import Derived.Test.YtmpcoifnpflapaaGreatER23
set_option linter.all false
set_option maxRecDepth 100000
set_option maxHeartbeats 16000000
namespace Go.Proofs.YtmpcoifnpflapaaGreat
section
open Go.RowKit
attribute [local go_sem ↓] Go.wp_at_zero Go.wp_at_succ
structure VB (w:World)(gs gg gp gt gw:Nat)(k:Nat):Prop where
 s:Blk w gs 3 #[.int .i64 k]
 g:Blk w gg 4 #[.bool true]
 p:∃cs,Blk w gp 36 cs/\cs[8]? = some (.int .i64 0)
 t:Blk w gt 3 #[.int .i64 255]
 f:Blk w gw 227 #[.func (Fn.func 121) #[] #[.pointer (some ⟨gs,0,none⟩),.pointer (some ⟨gg,0,none⟩),.pointer (some ⟨gp,0,none⟩),.pointer (some ⟨gt,0,none⟩),.pointer (some ⟨gw,0,none⟩)]]
 ne:gs≠gt
theorem VB.ext {w w':World}{gs gg gp gt gw k:Nat}(h:VB w gs gg gp gt gw k)(x:Ext w w'):VB w' gs gg gp gt gw k:=⟨h.s.ext x,h.g.ext x,by obtain⟨cs,h1,h2⟩:=h.p;exact⟨cs,h1.ext x,h2⟩,h.t.ext x,h.f.ext x,h.ne⟩
def VQ (gs gg:Nat):Nat->Prop:=fun b=>b=gs\/b=gg
def RetVb (gs gg gp gt gw k:Nat)(w:World)(e:Ending)(w':World):Prop:=e=.returned (.bool true)/\VB w' gs gg gp gt gw k/\KpP (VQ gs gg) w w'
def LfAt (w:World)(b o:Nat)(x:Sp):Prop:=∃sb,NdP w b o (ndS sb x)/\Blk w sb 24 #[.int .i64 x.1,.int .i64 x.2]/\0<=x.1/\x.1<=x.2/\x.2<=255
theorem LfAt.ext {w w':World}{b o:Nat}{x:Sp}(h:LfAt w b o x)(k:Ext w w'):LfAt w' b o x:=by
 obtain⟨sb,h1,h2,h3⟩:=h;exact⟨sb,h1.ext k,h2.ext k,h3⟩
theorem NdP.kp {w w':World}{b o:Nat}{n:Nd}{p:Nat->Prop}(h:NdP w b o n)(k:KpP p w w')(hp:¬p b):NdP w' b o n:=fun i hi=>by
 have h1:=h i hi;have hlt:b<w.heap.size:=World.block_lt_of_cell? _ _ h1;have e:=k.block b hlt hp
 simpa[World.cell?,e] using h1
theorem VB.setS {w:World}{gs gg gp gt gw k:Nat}(h:VB w gs gg gp gt gw k):VB (w.setCell ⟨gs,0,none⟩ (.int .i64 ((k:Int)+1))) gs gg gp gt gw (k+1):=by
 obtain⟨cs,h1,h2⟩:=h.p;exact⟨Blk.set h.s 0 (.int .i64 ((k:Int)+1)),h.g.far (Blk.neT h.g h.s de) _,⟨cs,h1.far (Blk.neT h1 h.s de) _,h2⟩,h.t.far h.ne.symm _,h.f.far (Blk.neT h.f h.s de) _,h.ne⟩
theorem VB.setG {w:World}{gs gg gp gt gw k:Nat}(h:VB w gs gg gp gt gw k):VB (w.setCell ⟨gg,0,none⟩ (.bool true)) gs gg gp gt gw k:=by
 obtain⟨cs,h1,h2⟩:=h.p;exact⟨h.s.far (Blk.neT h.s h.g de) _,Blk.set h.g 0 (.bool true),⟨cs,h1.far (Blk.neT h1 h.g de) _,h2⟩,h.t.far (Blk.neT h.t h.g de) _,h.f.far (Blk.neT h.f h.g de) _,h.ne⟩
theorem VB.noP {w:World}{gs gg gp gt gw k b T:Nat}{cs:Array Value}(h:VB w gs gg gp gt gw k)(hb:Blk w b T cs)(h1:T≠3)(h2:T≠4):¬VQ gs gg b:=fun e=>by
 rcases e with e|e
 ·exact Blk.neT hb h.s h1 e
 ·exact Blk.neT hb h.g h2 e
def NoV (gs gg b:Nat):Prop:=¬VQ gs gg b
theorem LfAt.kp {w w':World}{b o:Nat}{x:Sp}{gs gg gp gt gw k:Nat}(h:LfAt w b o x)(hv:VB w gs gg gp gt gw k)(kk:KpP (VQ gs gg) w w')(hb:NoV gs gg b):LfAt w' b o x:=by
 obtain⟨sb,h1,h2,h3⟩:=h;exact⟨sb,h1.kp kk hb,kk.blk h2 (hv.noP h2 de de),h3⟩
theorem valid1S_any (w:World)(gs gg gp gt gw k:Nat)(hv:VB w gs gg gp gt gw k)(hk:k<200)(b o:Nat)(x:Sp)(d:Int)(hd:d<=24/\0<=d)(hnv:NoV gs gg b)(hl:LfAt w b o x) :
 Calls Tryz.prog 121 #[.pointer (some ⟨b,o,none⟩),.int .i64 d,.pointer (some ⟨gs,0,none⟩),.pointer (some ⟨gg,0,none⟩),.pointer (some ⟨gp,0,none⟩),.pointer (some ⟨gt,0,none⟩),.pointer (some ⟨gw,0,none⟩)] w (RetVb gs gg gp gt gw (k+1) w):=by
 obtain⟨sb,hn,hsb,hx⟩:=hl;have hd1:=hd.1;have s0:w.cell? ⟨gs,0,none⟩=some (.int .i64 k):=hv.s.cell 0;have s1:=hv.s.frz 0;have V1:=hv.setS;have K1:=(KpP.refl (VQ gs gg) w).set (x:=⟨gs,0,none⟩) (.inl (.inl rfl)) (.int .i64 ((k:Int)+1));have hkk:(k:Int)+1<=256:=om;have HN1:=lh (hn.kp K1 hnv);have HSB:=lh (K1.blk hsb (hv.noP hsb de de));have HK1:=lh K1;clear K1 hn hsb;go_enter Tryz.func121,Tryz.ntmps121
 go_upto_region 2 with fail
 generalize w.setCell ⟨gs,0,none⟩ (.int .i64 ((k:Int)+1))=w1 at *;have HV1:=lh V1;clear s0 s1 hv;have s0:w1.cell? ⟨gs,0,none⟩=some (.int .i64 ((k:Int)+1)):=V1.s.cell 0;obtain⟨cs,hp,hp8⟩:=V1.p;have g0:w1.cell? ⟨gg,0,none⟩=some (.bool true):=V1.g.cell 0;have t0:w1.cell? ⟨gt,0,none⟩=some (.int .i64 255):=V1.t.cell 0;have p8:w1.cell? ⟨gp,8,none⟩=some (.int .i64 0):=by rw[hp.cell 8];exact hp8
 clear hp hp8 V1
 go_upto_region 4 with fail
 clear s0;have HF:=lh (formedS_any w1 b o sb x 0 hx HN1.out HSB.out);have f0:=fun(w':World) (x:Ext w1 w')=>(HV1.out.ext x).g.frz 0;have f1:=fun(w':World) (x:Ext w1 w')=>(HV1.out.ext x).g.cell 0;have HN2:=fun(w':World) (x:Ext w1 w')=>lh (HN1.out.ext x)
 go_upto_region 5 with(go_at_call 122;refine HF.out.mono ?_;rintro e w2 ⟨rfl,x2⟩;have q0:=f0 w2 x2;have q1:=f1 w2 x2)
 have V3:=lh ((HV1.out.ext x2).setG);have K3':=(KpP.refl (VQ gs gg) w2).set (x:=⟨gg,0,none⟩) (.inl (.inr rfl)) (.bool true);have K3:=lh ((HK1.out.thenExt x2).trans K3');have hn3:=(HN1.out.ext x2).kp K3' hnv;generalize w2.setCell ⟨gg,0,none⟩ (.bool true)=w3 at *;have c2:w3.cell? ⟨b,o+2,none⟩=some (.slice none 0 0):=hn3 2 (by simp[Nd.cs,ndS]);clear f0 f1 q0 q1 g0 t0 p8 HF HN1 HN2 hn3 HK1 HV1 x2 K3'
 go_upto_region 6 with fail
 go_loopw [32] (fun v wr=>v=.int .i64 0/\wr=w3) (fun _ _=>0)
 case atStart=>exact⟨rfl,rfl⟩
 case round=>
  obtain⟨rfl,rfl⟩:=hrel
  go_wp2_with fail
  go_ret
  exact⟨rfl,V3.out,K3.out⟩
theorem Kp.vq {gs gg:Nat}{a b:World}(h:Kp [gs,gg] a b):KpP (VQ gs gg) a b:=KpP.kp h (fun i hi=>by simpa[VQ] using hi)
def CtAt (w:World)(b o kb:Nat)(x y:Sp):Prop:=∃u v,NdP w b o (ndC kb u v)/\LfAt w kb 0 x/\LfAt w kb 8 y
theorem CtAt.ext {w w':World}{b o kb:Nat}{x y:Sp}(h:CtAt w b o kb x y)(k:Ext w w'):CtAt w' b o kb x y:=by
 obtain⟨u,v,h1,h2,h3⟩:=h;exact⟨u,v,h1.ext k,h2.ext k,h3.ext k⟩
theorem v1rnd {P:Prop}(h:P:=by
 have w0:wr.cell? ⟨gw,0,none⟩=some (.func (Fn.func 121) #[] #[.pointer (some ⟨gs,0,none⟩),.pointer (some ⟨gg,0,none⟩),.pointer (some ⟨gp,0,none⟩),.pointer (some ⟨gt,0,none⟩),.pointer (some ⟨gw,0,none⟩)]):=hvr.f.cell 0;have nw:gw∉[gs,gg]:=fun e=>hvr.noP hvr.f de de (by simpa[VQ] using e);have d0:=fun(w':World) (h:Kp [gs,gg] wr w')=>h.cell w0 nw;have d1:=fun(w':World) (h:Kp [gs,gg] wr w')=>h.cell cr (by simpa[VQ,NoV] using hnv);have VR:=lh hvr;have KR:=lh hkr;clear w0 cr nw hvr hkr
 go_upto_region 8 with fail
 refine Xr.start [gs,gg] kr ?_;refine Xtk 0 ?_
 iterate 8(refine Xtn ?_)
 clear d0 d1;refine Xsp 9 fun w5 hE5 hK5 K hKK=>?_;go_simp;refine(valid1S_any w5 gs gg gp gt gw _ (VR.out.ext hE5) om kb _ _ (d+1) om hnk (HLF.out.ext hE5)).mono ?_;rintro e w6 ⟨rfl,v6,k6⟩;refine hKK _ _ (WI_kp k6 (by simp[VQ])) (hK5.kpP k6 (by simp[VQ])) ?_;clear hKK;refine ptm ?_;refine Xtk 10 ?_;refine Xdn fun w7 hE7 hK7=>?_;have V7:=lh (v6.ext hE7);have K7:=lh (KR.out.trans hK7.vq);clear hE5 hK5 v6 k6 hE7 hK7
 go_wp2_with fail
 go_roundw
 case rel=>first|exact⟨1,by go_num,by decide,V7.out,K7.out⟩|exact⟨2,by go_num,by decide,V7.out,K7.out⟩
 case measure=>simp[intOf]):P:=h
theorem valid1C_any (w:World)(gs gg gp gt gw k:Nat)(hv:VB w gs gg gp gt gw k)(hk:k<100)(b o kb:Nat)(x y:Sp)(d:Int)(hd:d<=20/\0<=d)(hnv:NoV gs gg b)(hnk:NoV gs gg kb)(hl:CtAt w b o kb x y) :
 Calls Tryz.prog 121 #[.pointer (some ⟨b,o,none⟩),.int .i64 d,.pointer (some ⟨gs,0,none⟩),.pointer (some ⟨gg,0,none⟩),.pointer (some ⟨gp,0,none⟩),.pointer (some ⟨gt,0,none⟩),.pointer (some ⟨gw,0,none⟩)] w (RetVb gs gg gp gt gw (k+3) w):=by
 obtain⟨u,v,hn,hl1,hl2⟩:=hl;have hd1:d<=24:=om;have s0:w.cell? ⟨gs,0,none⟩=some (.int .i64 k):=hv.s.cell 0;have s1:=hv.s.frz 0;have V1:=hv.setS;have K1:=(KpP.refl (VQ gs gg) w).set (x:=⟨gs,0,none⟩) (.inl (.inl rfl)) (.int .i64 ((k:Int)+1));have hkk:(k:Int)+1<=256:=om;have HN1:=lh (hn.kp K1 hnv);have HL1:=lh (hl1.kp hv K1 hnk);have HL2:=lh (hl2.kp hv K1 hnk);have HK1:=lh K1;clear K1 hn hl1 hl2;go_enter Tryz.func121,Tryz.ntmps121
 go_upto_region 2 with fail
 generalize w.setCell ⟨gs,0,none⟩ (.int .i64 ((k:Int)+1))=w1 at *;have HV1:=lh V1;clear s0 s1 hv;have s0:w1.cell? ⟨gs,0,none⟩=some (.int .i64 ((k:Int)+1)):=V1.s.cell 0;obtain⟨cs,hp,hp8⟩:=V1.p;have g0:w1.cell? ⟨gg,0,none⟩=some (.bool true):=V1.g.cell 0;have t0:w1.cell? ⟨gt,0,none⟩=some (.int .i64 255):=V1.t.cell 0;have p8:w1.cell? ⟨gp,8,none⟩=some (.int .i64 0):=by rw[hp.cell 8];exact hp8
 clear hp hp8 V1
 go_upto_region 4 with fail
 clear s0;have HF:=lh (formedC_any w1 b o kb u v 0 HN1.out);have f0:=fun(w':World) (x:Ext w1 w')=>(HV1.out.ext x).g.frz 0;have f1:=fun(w':World) (x:Ext w1 w')=>(HV1.out.ext x).g.cell 0
 go_upto_region 5 with(go_at_call 122;refine HF.out.mono ?_;rintro e w2 ⟨rfl,x2⟩;have q0:=f0 w2 x2;have q1:=f1 w2 x2)
 have V3:=lh ((HV1.out.ext x2).setG);have K3':=(KpP.refl (VQ gs gg) w2).set (x:=⟨gg,0,none⟩) (.inl (.inr rfl)) (.bool true);have K3:=lh ((HK1.out.thenExt x2).trans K3');have hn3:=(HN1.out.ext x2).kp K3' hnv;have HL3:=lh ((HL1.out.ext x2).kp (HV1.out.ext x2) K3' hnk);have HL4:=lh ((HL2.out.ext x2).kp (HV1.out.ext x2) K3' hnk);generalize w2.setCell ⟨gg,0,none⟩ (.bool true)=w3 at *;have c2:w3.cell? ⟨b,o+2,none⟩=some (.slice (some ⟨kb,0,none⟩) 2 2):=hn3 2 (by simp[Nd.cs,ndC]);have HN3:=lh hn3;clear f0 f1 q0 q1 g0 t0 p8 HF HN1 hn3 HK1 HV1 x2 K3' HL1 HL2
 go_upto_region 6 with fail
 have hwd:IntKind.i64.wrap (d+1)=d+1:=wj
 go_loopw [32] (fun v wr=>∃i:Nat,v=.int .i64 i/\i<=2/\VB wr gs gg gp gt gw (k+1+i)/\KpP (VQ gs gg) w3 wr) (fun v _=>2-(intOf v).toNat)
 case atStart=>exact⟨0,rfl,om,V3.out,KpP.refl _ _⟩
 case round=>
  obtain⟨i,rfl,hi,hvr,hkr⟩:=hrel;have h3:i=0\/i=1\/i=2:=om;have cr:=(HN3.out.kp hkr hnv) 2 (by simp[Nd.cs,ndC]);have cr:wr.cell? ⟨b,o+2,none⟩=some (.slice (some ⟨kb,0,none⟩) 2 2):=cr;rcases h3 with rfl|rfl|rfl
  ·have HLF:=lh (HL3.out.kp V3.out hkr hnk);exact v1rnd
  ·have HLF:=lh (HL4.out.kp V3.out hkr hnk);exact v1rnd
  ·go_wp2_with fail
   go_ret
   exact⟨rfl,hvr,K3.out.trans hkr⟩
theorem infoIs:(Tryz.prog.info? 133).map (fun i=>(i.zero,i.size,i.bytes))=some (some (.agg #[.int .i64 0,.int .i64 0,.int .i64 0,.int .i64 0,.slice none 0 0]),5,56):=by kernel_rfl
def KeepN (gc:Nat)(w w':World):Prop:=∀(b T:Nat) (cs:Array Value),Blk w b T cs->T≠133->b≠gc->Blk w' b T cs
theorem KeepN.trans {gc:Nat}{a b c:World}(h:KeepN gc a b)(k:KeepN gc b c):KeepN gc a c:=fun x T cs hb h1 h2=>k x T cs (h x T cs hb h1 h2) h1 h2
theorem KeepN.of_ext {gc:Nat}{a b:World}(h:Ext a b):KeepN gc a b:=fun _ _ _ hb _ _=>hb.ext h
theorem OwnS.keepN {w w':World}{gc base e size n c:Nat}{A:Option Addr}{xs:List Value}(h:OwnS w base e size A n c xs)(k:KeepN gc w w')(he:e≠133)(hg:∀b,A.map (·.block)=some b->b≠gc):OwnS w' base e size A n c xs:=by
 have hl:=OwnS.len h;rcases OwnS.form h with⟨rfl,rfl,rfl,rfl⟩|⟨g,cur,rfl,hb,hh,h1,h2,h3,h4⟩
 ·exact OwnS.nil _ _ _ _
 ·have hB:=k g e cur hh he (hg g rfl);have:=OwnS.of_blk (size:=size) (n:=n) (c:=c) hB hb h3 h1 h2
  rwa [h4] at this
structure CX (w:World)(base gc:Nat)(hs:List Hin):Prop where
 ex:∃A c,Blk w gc 29 #[.slice A hs.length c]/\OwnS w base 133 5 A hs.length c (flatN hs)
 it:∀h∈hs,h.wf/\OwnP w 0 h.A h.c h.l/\∀s∈h.l,I64 s.1/\I64 s.2
theorem OwnP.ne_gc {w:World}{base gc c:Nat}{A:Option Addr}{l:List Sp}{cs:Array Value}(h:OwnP w base A c l)(hb:Blk w gc 29 cs):∀b,A.map (·.block)=some b->b≠gc:=fun b e=>by
 rcases OwnS.form h with⟨rfl,_⟩|⟨g,cur,rfl,_,hh,_⟩
 ·cases e
 ·injection e with e;subst e;exact Blk.neT hh hb de
theorem CX.ext {w w':World}{base gc:Nat}{hs:List Hin}(h:CX w base gc hs)(x:Ext w w'):CX w' base gc hs:=by
 obtain⟨A,c,h1,h2⟩:=h.ex;exact⟨⟨A,c,h1.ext x,h2.ext x⟩,fun z hz=>⟨(h.it z hz).1,OwnS.ext (h.it z hz).2.1 x,(h.it z hz).2.2⟩⟩
def CQ (gc:Nat)(A:Option Addr):Nat->Prop:=fun b=>b=gc\/A.map (·.block)=some b
def RetCX (wE:World)(base gc:Nat)(hs:List Hin)(w w':World):Prop:=CX w' base gc hs/\Ext wE w'/\KeepN gc w w'
theorem hput_any (wE w:World)(base gc:Nat)(hE:wE.heap.size<=base)(hbg:base<=gc)(xE:Ext wE w)(hbw:base<=w.heap.size)(hs:List Hin)(A:Option Addr)(c:Nat)(hb:Blk w gc 29 #[.slice A hs.length c])(hown:OwnS w base 133 5 A hs.length c (flatN hs))(hit:∀h∈hs,h.wf/\OwnP w 0 h.A h.c h.l/\∀s∈h.l,I64 s.1/\I64 s.2)(hl:hs.length<=100000)(h:Hin)(hw:h.wf)(ho:OwnP w 0 h.A h.c h.l)(hi:∀s∈h.l,I64 s.1/\I64 s.2) :
 Calls Tryz.prog 125 #[.agg #[.int .i64 h.op,.int .i64 h.x,.int .i64 h.y,.int .i64 h.n,.slice h.A h.l.length h.c],.pointer (some ⟨gc,0,none⟩)] w (fun e w'=>e=.returned (.int .i64 hs.length)/\RetCX wE base gc (hs++[h]) w w'/\KpP (CQ gc A) w w'):=by
 obtain⟨iN,jN0,jN1,jN2,jN3⟩:=info_parts infoIs;have X0:=Ext.alloc w (.cells #[.int .i64 h.op,.int .i64 h.x,.int .i64 h.y,.int .i64 h.n,.slice h.A h.l.length h.c] 133);have B0:=Blk.new w 133 #[.int .i64 h.op,.int .i64 h.x,.int .i64 h.y,.int .i64 h.n,.slice h.A h.l.length h.c];go_enter Tryz.func125,Tryz.ntmps125
 go_upto_region 1 with fail
 obtain⟨gi,hgi⟩:∃g,g=w.heap.size:=⟨_,rfl⟩
 rw[<-hgi] at B0 ⊢;have HGI:=lh hgi;clear hgi;generalize w.alloc (.cells #[.int .i64 h.op,.int .i64 h.x,.int .i64 h.y,.int .i64 h.n,.slice h.A h.l.length h.c] 133)=w1 at *;have c0:w1.cell? ⟨gc,0,none⟩=some (.slice A hs.length c):=(hb.ext X0).cell 0;have i0:w1.cell? ⟨gi,0,none⟩=some (.int .i64 h.op):=B0.cell 0;have i1:w1.cell? ⟨gi,1,none⟩=some (.int .i64 h.x):=B0.cell 1;have i2:w1.cell? ⟨gi,2,none⟩=some (.int .i64 h.y):=B0.cell 2;have i3:w1.cell? ⟨gi,3,none⟩=some (.int .i64 h.n):=B0.cell 3;have i4:w1.cell? ⟨gi,4,none⟩=some (.slice h.A h.l.length h.c):=B0.cell 4;have X1:=Ext.alloc w1 (.cells #[.int .i64 h.op,.int .i64 h.x,.int .i64 h.y,.int .i64 h.n,.slice h.A h.l.length h.c] 133);have B1:Blk (w1.alloc (.cells #[.int .i64 h.op,.int .i64 h.x,.int .i64 h.y,.int .i64 h.n,.slice h.A h.l.length h.c] 133)) w1.heap.size 133 (flatN [h]).toArray:=Blk.new w1 133 #[.int .i64 h.op,.int .i64 h.x,.int .i64 h.y,.int .i64 h.n,.slice h.A h.l.length h.c];have HOW:=lh ((OwnS.ext hown X0).ext X1);have hsz:=X0.size;have hsz1:=X1.size;have HB1:=(hb.ext X0).ext X1;have hcl:CellsAt (w1.alloc (.cells #[.int .i64 h.op,.int .i64 h.x,.int .i64 h.y,.int .i64 h.n,.slice h.A h.l.length h.c] 133)) (some ⟨w1.heap.size,0,none⟩) (flatN [h]):=blk_cells B1;have HFL:=lh (flatN_one [h]);have h63:hs.length+1<=maxLen:=by unfold maxLen;omega
 have h64:(hs.length+1)*56<=140737488355328:=om;have hbz:base<=(w1.alloc (.cells #[.int .i64 h.op,.int .i64 h.x,.int .i64 h.y,.int .i64 h.n,.slice h.A h.l.length h.c] 133)).heap.size:=om;have H63:=lh (And.intro h63 (And.intro h64 hbz));have f0:=HB1.frz 0;clear h63 h64 hbz;have XW:=lh (X0.trans X1);have HPOST:∀(A':Option Addr) (c':Nat) (w2:World),OwnS w2 base 133 5 A' (hs.length+1) c' (flatN hs++flatN [h])->(w1.alloc (.cells #[.int .i64 h.op,.int .i64 h.x,.int .i64 h.y,.int .i64 h.n,.slice h.A h.l.length h.c] 133)).grownBy w2 (A.map (·.block))->
  Hid (Blk w2 gc 29 #[.slice A hs.length c]/\Blk (w2.setCell ⟨gc,0,none⟩ (.slice A' (hs.length+1) c')) gc 29 #[.slice A' (hs.length+1) c']/\RetCX wE base gc (hs++[h]) w (w2.setCell ⟨gc,0,none⟩ (.slice A' (hs.length+1) c'))/\KpP (CQ gc A) w (w2.setCell ⟨gc,0,none⟩ (.slice A' (hs.length+1) c'))):=fun A' c' w2 ho2 hg2=>lh (by
  have hA:∀b,A.map (·.block)=some b->∃cur,(w1.alloc (.cells #[.int .i64 h.op,.int .i64 h.x,.int .i64 h.y,.int .i64 h.n,.slice h.A h.l.length h.c] 133)).heap[b]? = some (.cells cur 133 (0,0)):=fun b e=>by
   rcases OwnS.form HOW.out with⟨rfl,_⟩|⟨g,cur,rfl,_,hh,_⟩
   ·cases e
   ·injection e with e;subst e;exact⟨cur,hh⟩
  have kg:=KpP.of_grown hg2;have keep1:KeepN gc w w2:=fun b T cs hb' hT hne=>by
   refine kg.blk (hb'.ext XW.out) (fun e=>?_);obtain⟨cur,hh⟩:=hA b e;exact Blk.neT (hb'.ext XW.out) hh hT rfl
  have hb2:Blk w2 gc 29 #[.slice A hs.length c]:=by
   refine kg.blk HB1 (fun e=>?_);obtain⟨cur,hh⟩:=hA gc e;exact Blk.neT HB1 hh de rfl
  have hb3:Blk (w2.setCell ⟨gc,0,none⟩ (.slice A' (hs.length+1) c')) gc 29 #[.slice A' (hs.length+1) c']:=Blk.set hb2 0 _;have keep2:KeepN gc w (w2.setCell ⟨gc,0,none⟩ (.slice A' (hs.length+1) c')):=fun b T cs hb' hT hne=>(keep1 b T cs hb' hT hne).far hne _;have hA2:A'.map (·.block)≠some gc:=fun e=>by
   rcases OwnS.form ho2 with⟨rfl,_⟩|⟨g,cur,rfl,_,hh,_⟩
   ·cases e
   ·injection e with e;exact Blk.neT hh hb2 de e
  refine⟨hb2,hb3,⟨⟨⟨A',c',?_,?_⟩,fun z hz=>?_⟩,?_,keep2⟩,?_⟩
  ·rw[List.length_append];exact hb3
  ·rw[List.length_append,flatN_append];exact ho2.far hA2 _
  ·rcases List.mem_append.1 hz with hz|hz
   ·obtain⟨q1,q2,q3⟩:=hit z hz;exact⟨q1,OwnS.keepN q2 keep2 de (OwnP.ne_gc q2 hb),q3⟩
   ·rw[List.mem_singleton.1 hz];exact⟨hw,OwnS.keepN ho keep2 de (OwnP.ne_gc ho hb),hi⟩
  ·have xb:Ext wE (w1.alloc (.cells #[.int .i64 h.op,.int .i64 h.x,.int .i64 h.y,.int .i64 h.n,.slice h.A h.l.length h.c] 133)):=xE.trans XW.out;exact(xb.grown hg2 (fun k e=>by have:=OwnS.row HOW.out k e;omega)).setNew (p:=⟨gc,0,none⟩) (by show wE.heap.size<=gc;omega) _
  ·exact((KpP.of_ext XW.out).trans (kg.mono (fun k e=>.inr e))).set (x:=⟨gc,0,none⟩) (.inl (.inl rfl)) _)
 have HLL:Hid (((hs.length:Int)+1:Int)-1=hs.length):=lh om;clear hb hown hit X0 X1 B0 B1 HB1 ho hi
 go_upto_region 2 with(at_builtin;refine wpList_app _ rfl _ _ _ rfl base 133 iN _ 5 56 Tryz.underlying29 jN0 jN1 jN2 jN3 rfl om A hs.length c (flatN hs) rfl HOW.out _ 1 1 (flatN [h]) rfl rfl hcl HFL.out H63.out.1 H63.out.2.1 H63.out.2.2 ?_;intro A' c' w2 ho2 hg2 _;have HP:=HPOST A' c' w2 ho2 hg2;have z0:=HP.out.1.cell 0;have z1:=HP.out.1.frz 0)
 have HP2:=lh HP.out.2.2;have q0:=HP.out.2.1.cell 0;generalize w2.setCell ⟨gc,0,none⟩ (.slice A' (hs.length+1) c')=w3 at *;have q0:w3.cell? ⟨gc,0,none⟩=some (.slice A' (hs.length+1) c'):=q0;clear HP z0 z1 hg2 ho2 HPOST HOW hcl
 go_wp2_with fail
 go_ret
 exact⟨by first|rfl|(congr 2;omega),HP2.out⟩
def bl (A:Option Addr):List Nat:=(A.map (·.block)).toList
theorem CQ.mem {gc:Nat}{A:Option Addr}:∀i,CQ gc A i->i∈gc::bl A:=fun i e=>by
 rcases e with e|e
 ·simp[e]
 ·simp[bl,e]
theorem bl.mem {A:Option Addr}{i:Nat}(h:i∈bl A):A.map (·.block)=some i:=by
 cases A with
 | none=>simp[bl] at h
 | some a=>simpa[bl,eq_comm] using h
structure WB (w:World)(gc gq gw ga gr:Nat):Prop where
 q:Blk w gq 231 #[.func (Fn.func 125) #[] #[.pointer (some ⟨gc,0,none⟩)]]
 w:Blk w gw 232 #[.func (Fn.func 129) #[] #[.pointer (some ⟨gq,0,none⟩),.pointer (some ⟨gw,0,none⟩),.pointer (some ⟨ga,0,none⟩),.pointer (some ⟨gr,0,none⟩)]]
theorem WB.ext {w w':World}{gc gq gw ga gr:Nat}(h:WB w gc gq gw ga gr)(x:Ext w w'):WB w' gc gq gw ga gr:=⟨h.q.ext x,h.w.ext x⟩
theorem WB.keep {w w':World}{gc gq gw ga gr:Nat}{cs:Array Value}(h:WB w gc gq gw ga gr)(hb:Blk w gc 29 cs)(k:KeepN gc w w'):WB w' gc gq gw ga gr:=⟨k _ _ _ h.q de (Blk.neT h.q hb de),k _ _ _ h.w de (Blk.neT h.w hb de)⟩
theorem one_slS {w:World}{g:Nat}{x:Sp}(hb:Blk w g 24 #[.int .i64 x.1,.int .i64 x.2])(hx:0<=x.1/\x.1<=x.2/\x.2<=255):SL w (some ⟨g,0,none⟩) 1 [x]:=by
 have h:=OwnS.of_blk (base:=0) (size:=2) (n:=1) (c:=1) hb (Nat.zero_le _) rfl (Nat.le_refl _) um;exact SL.of_own (l:=[x]) h (by intro s hs;rw[List.mem_singleton.1 hs];unfold S64 I64;omega)
theorem OwnP.downZ {w:World}{b1 c:Nat}{A:Option Addr}{l:List Sp}(h:OwnP w b1 A c l):OwnP w 0 A c l:=by
 have hl:=OwnS.len h;rcases OwnS.form h with⟨rfl,h1,rfl,h2⟩|⟨g,cur,rfl,hb,hh,h1,h2,h3,h4⟩
 ·have hl0:l=[]:=List.length_eq_zero_iff.1 h1;subst hl0;exact OwnP.nil _ _
 ·have:=OwnS.of_blk (base:=0) (size:=2) (n:=l.length) (c:=c) hh (Nat.zero_le _) h3 h1 h2;unfold OwnP
  rwa [h4] at this
def InS (x:Sp)(h:Hin):Prop:=h.op=1/\h.x=0/\h.y=0/\h.n=0/\h.l=[x]
def PutW (gc:Nat)(w w':World):Prop:=∀(A:Option Addr) (n c:Nat),Blk w gc 29 #[.slice A n c]->KpP (CQ gc A) w w'
theorem PutW.of {gc n c:Nat}{A:Option Addr}{w w':World}(hb:Blk w gc 29 #[.slice A n c])(h:KpP (CQ gc A) w w'):PutW gc w w':=fun A' n' c' hb'=>by
 have e:some (Obj.cells #[.slice A n c] 29 (0,0))=some (.cells #[.slice A' n' c'] 29 (0,0)):=Eq.trans (Eq.symm hb) hb';injection e with e
 injection e with e _
 have e1:(Value.slice A n c)=.slice A' n' c':=by simpa using e
 injection e1 with e1
 subst e1;exact h
def RetWr (wE:World)(base gc gq gw ga gr:Nat)(hs:List Hin)(x:Sp)(w:World)(e:Ending)(w':World):Prop:=e=.returned (.tuple #[])/\∃h,InS x h/\RetCX wE base gc (hs++[h]) w w'/\WB w' gc gq gw ga gr/\PutW gc w w'
theorem writeS_any (wE w:World)(base gc gq gw ga gr:Nat)(hE:wE.heap.size<=base)(hbg:base<=gc)(xE:Ext wE w)(hbw:base<=w.heap.size)(hwb:WB w gc gq gw ga gr)(hs:List Hin)(hc:CX w base gc hs)(hl:hs.length<=100000)(b o:Nat)(x:Sp)(hlf:LfAt wE b o x)(hbl:b<wE.heap.size) :
 Calls Tryz.prog 129 #[.pointer (some ⟨b,o,none⟩),.pointer (some ⟨gq,0,none⟩),.pointer (some ⟨gw,0,none⟩),.pointer (some ⟨ga,0,none⟩),.pointer (some ⟨gr,0,none⟩)] w (RetWr wE base gc gq gw ga gr hs x w):=by
 obtain⟨A,c,hb,hown⟩:=hc.ex;obtain⟨sb,hn,hsb,hx⟩:=hlf;have c0:w.cell? ⟨b,o,none⟩=some (.int .i64 1):=xE.cell (hn 0 (by simp[Nd.cs,ndS]));have c1:w.cell? ⟨b,o+1,none⟩=some (.slice (some ⟨sb,0,none⟩) 1 1):=xE.cell (hn 1 (by simp[Nd.cs,ndS]));have c5:w.cell? ⟨gq,0,none⟩=some (.func (Fn.func 125) #[] #[.pointer (some ⟨gc,0,none⟩)]):=hwb.q.cell 0;have nq:gq∉gc::bl A:=fun e=>by
  rcases List.mem_cons.1 e with e|e
  ·exact Blk.neT hwb.q hb de e
  ·have e':=bl.mem e;rcases OwnS.form hown with⟨rfl,_⟩|⟨g,cur,rfl,_,hh,_⟩
   ·cases e'
   ·injection e' with e';exact Blk.neT hwb.q hh de e'.symm
 have nb:b∉gc::bl A:=fun e=>by
  rcases List.mem_cons.1 e with e|e
  ·omega
  ·have:=OwnS.row hown b (bl.mem e);omega
 have d0:=fun(w':World) (h:Kp (gc::bl A) w w')=>h.cell c5 nq;have d1:=fun(w':World) (h:Kp (gc::bl A) w w')=>h.cell c1 nb;have HCL:=fun(w':World) (y:Ext wE w')=>lh (cloneS_any (some ⟨sb,0,none⟩) 1 [x] w' (one_slS (hsb.ext y) hx) si);have HI:=lh hc.it;have HB:=lh hb;have HO:=lh hown;have HWB:=lh hwb;clear hwb hc hn hsb c1 c5 nq nb hb hown;go_enter Tryz.func129,Tryz.ntmps129
 go_upto_region 2 with fail
 refine Xr.start (gc::bl A) kr ?_;refine Xtk 0 ?_
 iterate 4(refine Xtn ?_)
 refine Xcl 5 fun w1 hE1 hK1 K hKK=>?_;go_simp;refine(HCL w1 (xE.trans hE1)).out.mono ?_;rintro e w2 ⟨A',c',rfl,ho2,x2⟩;refine hKK _ _ x2 ?_;clear hKK;refine ptm ?_;refine Xr.take 6 (some 19) (v:=.agg #[.int .i64 1,.int .i64 0,.int .i64 0,.int .i64 0,.slice A' 1 c']) rfl rfl dK (by rfl) (fun w' hk=>by go_simp) ?_;refine ptm ?_;refine Xsp 7 fun w3 hE3 hK3 K hKK=>?_;go_simp;have XW3:=(hE1.trans x2).trans hE3;refine(hput_any wE w3 base gc hE hbg (xE.trans XW3) (by have:=XW3.size;omega) hs A c (HB.out.ext XW3) (OwnS.ext HO.out XW3) (fun z hz=>⟨(HI.out z hz).1,OwnS.ext (HI.out z hz).2.1 XW3,(HI.out z hz).2.2⟩) hl ⟨1,0,0,0,A',c',[x]⟩ (by simp[Hin.wf,I64]) (OwnP.downZ (OwnS.ext ho2 hE3)) (by intro s hs;rw[List.mem_singleton.1 hs];unfold I64;omega)).mono ?_;rintro e w4 ⟨rfl,hcx,kp4⟩;refine hKK _ _ (WI_kp kp4 CQ.mem) (hK3.kpP kp4 CQ.mem) ?_;clear hKK;refine ptm ?_;refine Xdn fun w5 hE5 hK5=>?_;have KW:=lh ((KeepN.of_ext (gc:=gc) XW3).trans (hcx.2.2.trans (KeepN.of_ext hE5)));have HCX:=lh (hcx.1.ext hE5);have HXE:=lh (hcx.2.1.trans hE5);have HW5:=lh (HWB.out.keep HB.out KW.out);have HPW:=lh (PutW.of HB.out (KpP.mono (KpP.trans (KpP.of_ext XW3) (KpP.trans kp4 (KpP.of_ext hE5))) (fun _ e=>e)));clear XW3 hcx kp4 hE5 hK5 hE3 hK3 hE1 hK1 x2 ho2 d0 d1 HCL
 go_wp2_with fail
 exact bodyPost_end (v:=.tuple #[]) (by simp[results,Tryz.results129,go_sem]) rfl ⟨rfl,⟨1,0,0,0,A',c',[x]⟩,⟨rfl,rfl,rfl,rfl,rfl⟩,⟨HCX.out,HXE.out,KW.out⟩,HW5.out,HPW.out⟩
def CtI (x y:Sp)(i:Nat)(hs:List Hin):Prop:=(i=0/\hs=[])\/(i=1/\∃h,InS x h/\hs=[h])\/(i=2/\∃h h2,InS x h/\InS y h2/\hs=[h,h2])
def RetWc (wE:World)(base gc:Nat)(x y:Sp)(e:Ending)(w':World):Prop:=e=.returned (.tuple #[])/\∃hs,CtI x y 2 hs/\CX w' base gc hs/\Ext wE w'
theorem wrnd {P:Prop}(h:P:=by
 obtain⟨A,c,hb,hown⟩:=hcr.ex;have c5:wr.cell? ⟨gw,0,none⟩=some (.func (Fn.func 129) #[] #[.pointer (some ⟨gq,0,none⟩),.pointer (some ⟨gw,0,none⟩),.pointer (some ⟨ga,0,none⟩),.pointer (some ⟨gr,0,none⟩)]):=hwr.w.cell 0;have c1:wr.cell? ⟨b,o+2,none⟩=some (.slice (some ⟨kb,0,none⟩) 2 2):=xr.cell HK.out;have nq:gw∉gc::bl A:=fun e=>by
  rcases List.mem_cons.1 e with e|e
  ·exact Blk.neT hwr.w hb de e
  ·have e':=bl.mem e;rcases OwnS.form hown with⟨rfl,_⟩|⟨g,cur,rfl,_,hh,_⟩
   ·cases e'
   ·injection e' with e';exact Blk.neT hwr.w hh de e'.symm
 have nb:b∉gc::bl A:=fun e=>by
  rcases List.mem_cons.1 e with e|e
  ·omega
  ·have:=OwnS.row hown b (bl.mem e);omega
 have d0:=fun(w':World) (h:Kp (gc::bl A) wr w')=>h.cell c5 nq;have d1:=fun(w':World) (h:Kp (gc::bl A) wr w')=>h.cell c1 nb;have HB:=lh hb;have HCR:=lh hcr;have HWR:=lh hwr;have HXR:=lh xr;have hsr:base<=wr.heap.size:=by have:=hb.lt;omega
 clear c5 c1 nq nb hb hown hcr hwr xr
 go_upto_region 9 with fail
 refine Xr.start (gc::bl A) kr ?_;refine Xtk 0 ?_
 iterate 6(refine Xtn ?_)
 clear d0 d1;refine Xsp 7 fun w5 hE5 hK5 K hKK=>?_;go_simp;refine(writeS_any wE w5 base gc gq gw ga gr hE hbg (HXR.out.trans hE5) (by have:=hE5.size;omega) (HWR.out.ext hE5) _ (HCR.out.ext hE5) si kb _ _ HLF.out hkbl).mono ?_;rintro e w6 ⟨rfl,h,hin,hcx,hw6,hpw⟩;have kp6:=hpw A _ c (HB.out.ext hE5);refine hKK _ _ (WI_kp kp6 CQ.mem) (hK5.kpP kp6 CQ.mem) ?_;clear hKK;refine ptm ?_;refine Xdn fun w7 hE7 hK7=>?_;have HC7:=lh (hcx.1.ext hE7);have HX7:=lh (hcx.2.1.trans hE7);have HW7:=lh (hw6.ext hE7);have HIN:=lh hin;clear hE5 hK5 hE7 hK7 hcx hw6 hpw kp6 hin
 go_wp2_with fail
 go_roundw
 case rel=>first|exact⟨1,_,by go_num,by decide,.inr (.inl ⟨rfl,h,HIN.out,rfl⟩),HC7.out,HX7.out,HW7.out⟩|exact⟨2,_,by go_num,by decide,.inr (.inr ⟨rfl,h1,h,hin1,HIN.out,rfl⟩),HC7.out,HX7.out,HW7.out⟩
 case measure=>simp[intOf]):P:=h
theorem writeC_any (wE w:World)(base gc gq gw ga gr:Nat)(hE:wE.heap.size<=base)(hbg:base<=gc)(xE:Ext wE w)(hwb:WB w gc gq gw ga gr)(hc:CX w base gc [])(b o kb:Nat)(x y:Sp)(hct:CtAt wE b o kb x y)(hbl:b<wE.heap.size)(hkbl:kb<wE.heap.size) :
 Calls Tryz.prog 129 #[.pointer (some ⟨b,o,none⟩),.pointer (some ⟨gq,0,none⟩),.pointer (some ⟨gw,0,none⟩),.pointer (some ⟨ga,0,none⟩),.pointer (some ⟨gr,0,none⟩)] w (RetWc wE base gc x y):=by
 obtain⟨u,v,hn,hl1,hl2⟩:=hct;have HK:Hid (wE.cell? ⟨b,o+2,none⟩=some (.slice (some ⟨kb,0,none⟩) 2 2)):=lh (hn 2 (by simp[Nd.cs,ndC]));have c0:w.cell? ⟨b,o,none⟩=some (.int .i64 2):=xE.cell (hn 0 (by simp[Nd.cs,ndC]));have c2:=xE.cell HK.out;have HL1:=lh hl1;have HL2:=lh hl2;clear hn hl1 hl2;go_enter Tryz.func129,Tryz.ntmps129
 go_upto_region 7 with fail
 clear c0 c2
 go_loopw [37] (fun v wr=>∃(i:Nat) (hs:List Hin),v=.int .i64 i/\i<=2/\CtI x y i hs/\CX wr base gc hs/\Ext wE wr/\WB wr gc gq gw ga gr) (fun v _=>2-(intOf v).toNat)
 case atStart=>exact⟨0,[],rfl,om,.inl ⟨rfl,rfl⟩,hc,xE,hwb⟩
 case round=>
  clear hc xE hwb;obtain⟨i,hs,rfl,hi,hct,hcr,xr,hwr⟩:=hrel;rcases hct with⟨rfl,rfl⟩|⟨rfl,h1,hin1,rfl⟩|⟨rfl,h1,h2,hin1,hin2,rfl⟩
  ·have HLF:=HL1;exact wrnd
  ·have HLF:=HL2;exact wrnd
  ·go_wp2_with fail
   exact bodyPost_end (v:=.tuple #[]) (by simp[results,Tryz.results129,go_sem]) rfl ⟨rfl,_,.inr (.inr ⟨rfl,h1,h2,hin1,hin2,rfl⟩),hcr,xr⟩
theorem store_blkF {w:World}{g T:Nat}{v:Value}(h:Blk w g T #[v])(f:Nat)(cs:Array Value):(store ⟨g,0,none⟩ (.func (Fn.func f) #[] cs)).run Tryz.prog w=.ok () (w.setCell ⟨g,0,none⟩ (.func (Fn.func f) #[] cs)):=by
 have z0:w.cell? ⟨g,0,none⟩=some v:=h.cell 0;rw[run_store Tryz.prog w _ _ _ rfl,z0];simp[h.frz 0]
def RetCo (x y:Sp)(w:World)(e:Ending)(w':World):Prop:=∃A c hs,e=.returned (.slice A hs.length c)/\CtI x y 2 hs/\OwnS w' w.heap.size 133 5 A hs.length c (flatN hs)/\(∀h∈hs,h.wf/\OwnP w' 0 h.A h.c h.l/\∀s∈h.l,I64 s.1/\I64 s.2)/\Ext w w'
theorem codeC_any (w:World)(b o kb:Nat)(x y:Sp)(hct:CtAt w b o kb x y)(hbl:b<w.heap.size)(hkbl:kb<w.heap.size) :
 Calls Tryz.prog 66 #[.pointer (some ⟨b,o,none⟩)] w (RetCo x y w):=by
 have X1:=Ext.alloc w (.cells #[.slice none 0 0] 29);have B1:=Blk.new w 29 #[.slice none 0 0];go_enter Tryz.func66,Tryz.ntmps66
 go_upto_region 2 with fail
 obtain⟨gc,hgc⟩:∃g,g=w.heap.size:=⟨_,rfl⟩
 rw[<-hgc] at B1 ⊢;have HGC:=lh hgc;clear hgc;generalize w.alloc (.cells #[.slice none 0 0] 29)=w1 at *;have B2:=Blk.new w1 231 #[.nilFunc];have hst:=store_blkF B2 125 #[.pointer (some ⟨gc,0,none⟩)];have X2:=Ext.alloc w1 (.cells #[.func (Fn.func 125) #[] #[.pointer (some ⟨gc,0,none⟩)]] 231);have B3:Blk (w1.alloc (.cells #[.func (Fn.func 125) #[] #[.pointer (some ⟨gc,0,none⟩)]] 231)) w1.heap.size 231 #[.func (Fn.func 125) #[] #[.pointer (some ⟨gc,0,none⟩)]]:=Blk.new w1 _ _
 go_upto_region 3 with fail
 generalize w1.alloc (.cells #[.func (Fn.func 125) #[] #[.pointer (some ⟨gc,0,none⟩)]] 231)=w2 at *;clear hst B2;obtain⟨gq,hgq⟩:∃g,g=w1.heap.size:=⟨_,rfl⟩
 rw[<-hgq] at B3 ⊢;clear hgq;have X4:=Ext.alloc w2 (.cells #[.nilFunc] 232);have B4:=Blk.new w2 232 #[.nilFunc]
 go_upto_region 4 with fail
 obtain⟨gw,hgw⟩:∃g,g=w2.heap.size:=⟨_,rfl⟩
 rw[<-hgw] at B4 ⊢;have HGW:=lh hgw;clear hgw;generalize w2.alloc (.cells #[.nilFunc] 232)=w3 at *;have B5:=Blk.new w3 232 #[.nilFunc];have hst:=store_blkF B5 126 #[.pointer (some ⟨gw,0,none⟩),.pointer (some ⟨gq,0,none⟩),.pointer (some ⟨gc,0,none⟩)];have X5:=Ext.alloc w3 (.cells #[.func (Fn.func 126) #[] #[.pointer (some ⟨gw,0,none⟩),.pointer (some ⟨gq,0,none⟩),.pointer (some ⟨gc,0,none⟩)]] 232)
 go_upto_region 5 with fail
 generalize w3.alloc (.cells #[.func (Fn.func 126) #[] #[.pointer (some ⟨gw,0,none⟩),.pointer (some ⟨gq,0,none⟩),.pointer (some ⟨gc,0,none⟩)]] 232)=w4 at *;clear hst B5;obtain⟨gr,hgr⟩:∃g,g=w3.heap.size:=⟨_,rfl⟩
 rw[<-hgr];clear hgr;have B6:=Blk.new w4 234 #[.nilFunc];have hst:=store_blkF B6 128 #[.pointer (some ⟨gq,0,none⟩),.pointer (some ⟨gw,0,none⟩),.pointer (some ⟨gc,0,none⟩)];have X6:=Ext.alloc w4 (.cells #[.func (Fn.func 128) #[] #[.pointer (some ⟨gq,0,none⟩),.pointer (some ⟨gw,0,none⟩),.pointer (some ⟨gc,0,none⟩)]] 234)
 go_upto_region 6 with fail
 generalize w4.alloc (.cells #[.func (Fn.func 128) #[] #[.pointer (some ⟨gq,0,none⟩),.pointer (some ⟨gw,0,none⟩),.pointer (some ⟨gc,0,none⟩)]] 234)=w5 at *;clear hst B6;obtain⟨ga,hga⟩:∃g,g=w4.heap.size:=⟨_,rfl⟩
 rw[<-hga];clear hga;have XX:=lh (X5.trans X6);have B7:=B4.ext XX.out;have hst:=store_blkF B7 129 #[.pointer (some ⟨gq,0,none⟩),.pointer (some ⟨gw,0,none⟩),.pointer (some ⟨ga,0,none⟩),.pointer (some ⟨gr,0,none⟩)];have XE2:=lh ((X1.trans X2).trans (X4.trans XX.out));have hlow:Hid (w.heap.size<=gw):=lh (by have h1:=X1.size;have h2:=X2.size;have h3:=HGW.out;omega);have X7:=lh (XE2.out.setNew (p:=⟨gw,0,none⟩) hlow.out (.func (Fn.func 129) #[] #[.pointer (some ⟨gq,0,none⟩),.pointer (some ⟨gw,0,none⟩),.pointer (some ⟨ga,0,none⟩),.pointer (some ⟨gr,0,none⟩)]));have B8:Blk (w5.setCell ⟨gw,0,none⟩ (.func (Fn.func 129) #[] #[.pointer (some ⟨gq,0,none⟩),.pointer (some ⟨gw,0,none⟩),.pointer (some ⟨ga,0,none⟩),.pointer (some ⟨gr,0,none⟩)])) gw 232 #[.func (Fn.func 129) #[] #[.pointer (some ⟨gq,0,none⟩),.pointer (some ⟨gw,0,none⟩),.pointer (some ⟨ga,0,none⟩),.pointer (some ⟨gr,0,none⟩)]]:=Blk.set B7 0 _;have Bc:=((((B1.ext X2).ext X4).ext XX.out).far (Blk.neT (((B1.ext X2).ext X4).ext XX.out) B7 de) (p:=⟨gw,0,none⟩) (.func (Fn.func 129) #[] #[.pointer (some ⟨gq,0,none⟩),.pointer (some ⟨gw,0,none⟩),.pointer (some ⟨ga,0,none⟩),.pointer (some ⟨gr,0,none⟩)]));have Bq:=(((B3.ext X4).ext XX.out).far (Blk.neT ((B3.ext X4).ext XX.out) B7 de) (p:=⟨gw,0,none⟩) (.func (Fn.func 129) #[] #[.pointer (some ⟨gq,0,none⟩),.pointer (some ⟨gw,0,none⟩),.pointer (some ⟨ga,0,none⟩),.pointer (some ⟨gr,0,none⟩)]))
 go_upto_region 7 with fail
 generalize w5.setCell ⟨gw,0,none⟩ (.func (Fn.func 129) #[] #[.pointer (some ⟨gq,0,none⟩),.pointer (some ⟨gw,0,none⟩),.pointer (some ⟨ga,0,none⟩),.pointer (some ⟨gr,0,none⟩)])=w6 at *;clear hst B7 B1 B3 B4 X1 X2 X4 X5 X6;have c5:w6.cell? ⟨gw,0,none⟩=some (.func (Fn.func 129) #[] #[.pointer (some ⟨gq,0,none⟩),.pointer (some ⟨gw,0,none⟩),.pointer (some ⟨ga,0,none⟩),.pointer (some ⟨gr,0,none⟩)]):=B8.cell 0;have HW:=lh (writeC_any w w6 w.heap.size gc gq gw ga gr (Nat.le_refl _) (by have:=HGC.out;omega) X7.out ⟨Bq,B8⟩ ⟨⟨none,0,Bc,OwnS.nil _ _ _ _⟩,by simp⟩ b o kb x y hct hbl hkbl);clear Bq B8 Bc hct
 go_upto_region 8 with(go_at_call 129;refine HW.out.mono ?_;rintro e w7 ⟨rfl,hs,hct,hcx,x7⟩)
 obtain⟨A,c,hb,hown⟩:=hcx.ex;have c8:w7.cell? ⟨gc,0,none⟩=some (.slice A hs.length c):=hb.cell 0;have HH:=lh (And.intro hct (And.intro hown (And.intro hcx.it x7)));clear hct hcx x7 hb hown
 go_wp2_with fail
 go_ret
 exact⟨A,c,hs,rfl,HH.out⟩
theorem compS_any (w:World)(b o:Nat)(x:Sp)(hl:LfAt w b o x):Calls Tryz.prog 64 #[.pointer (some ⟨b,o,none⟩),.slice none 0 0] w (RetV (.bool true) w):=by
 obtain⟨sb,hn,hsb,hx⟩:=hl;have c0:w.cell? ⟨b,o,none⟩=some (.int .i64 1):=hn 0 (by simp[Nd.cs,ndS]);have c2:w.cell? ⟨b,o+2,none⟩=some (.slice none 0 0):=hn 2 (by simp[Nd.cs,ndS]);go_enter Tryz.func64,Tryz.ntmps64
 go_upto_region 16 with fail
 go_loopw [52] (fun v wr=>v=.int .i64 0/\wr=w) (fun _ _=>0)
 case atStart=>exact⟨rfl,rfl⟩
 case round=>
  obtain⟨rfl,rfl⟩:=hrel
  go_wp2_with fail
  go_ret
  exact⟨rfl,Ext.rfl' _⟩
theorem compC_any (w:World)(b o kb:Nat)(x y:Sp)(hl:CtAt w b o kb x y):Calls Tryz.prog 64 #[.pointer (some ⟨b,o,none⟩),.slice none 0 0] w (RetV (.bool true) w):=by
 obtain⟨u,v,hn,h1,h2⟩:=hl;have c0:w.cell? ⟨b,o,none⟩=some (.int .i64 2):=hn 0 (by simp[Nd.cs,ndC]);have c2:w.cell? ⟨b,o+2,none⟩=some (.slice (some ⟨kb,0,none⟩) 2 2):=hn 2 (by simp[Nd.cs,ndC]);have HN:=lh c2;have H1:=lh h1;have H2:=lh h2;clear hn h1 h2;go_enter Tryz.func64,Tryz.ntmps64
 go_upto_region 16 with fail
 clear c0 c2
 go_loopw [52] (fun v wr=>∃i:Nat,v=.int .i64 i/\i<=2/\Ext w wr) (fun v _=>2-(intOf v).toNat)
 case atStart=>exact⟨0,rfl,om,Ext.rfl' _⟩
 case round=>
  obtain⟨i,rfl,hi,x1⟩:=hrel;have c2:=x1.cell HN.out;have h3:i=0\/i=1\/i=2:=om;rcases h3 with rfl|rfl|rfl
  ·have HC:=lh (compS_any wr kb 0 x (H1.out.ext x1))
   go_wp2_with (go_at_call 64;refine HC.out.mono ?_;rintro e w1 ⟨rfl,y1⟩;have X2:=lh (x1.trans y1))
   go_roundw
   case rel=>exact⟨1,by go_num,by decide,X2.out⟩
   case measure=>simp[intOf]
  ·have HC:=lh (compS_any wr kb 8 y (H2.out.ext x1))
   go_wp2_with (go_at_call 64;refine HC.out.mono ?_;rintro e w1 ⟨rfl,y1⟩;have X2:=lh (x1.trans y1))
   go_roundw
   case rel=>exact⟨2,by go_num,by decide,X2.out⟩
   case measure=>simp[intOf]
  ·go_wp2_with fail
   go_ret
   exact⟨rfl,x1⟩
theorem lenS_any (w:World)(b o:Nat)(x:Sp)(hl:LfAt w b o x):Calls Tryz.prog 65 #[.pointer (some ⟨b,o,none⟩)] w (RetV (.int .i64 1) w):=by
 obtain⟨sb,hn,hsb,hx⟩:=hl;have c0:w.cell? ⟨b,o,none⟩=some (.int .i64 1):=hn 0 (by simp[Nd.cs,ndS]);have c2:w.cell? ⟨b,o+2,none⟩=some (.slice none 0 0):=hn 2 (by simp[Nd.cs,ndS]);go_enter Tryz.func65,Tryz.ntmps65
 go_upto_region 3 with fail
 go_loopw [3,11] (fun v3 v wr=>v3=.int .i64 0/\v=.int .i64 0/\wr=w) (fun _ _ _=>0)
 case atStart=>exact⟨rfl,rfl,rfl⟩
 case round=>
  obtain⟨rfl,rfl,rfl⟩:=hrel
  go_wp2_with fail
  go_ret
  exact⟨rfl,Ext.rfl' _⟩
theorem lenC_any (w:World)(b o kb:Nat)(x y:Sp)(hl:CtAt w b o kb x y):Calls Tryz.prog 65 #[.pointer (some ⟨b,o,none⟩)] w (RetV (.int .i64 2) w):=by
 obtain⟨u,v,hn,h1,h2⟩:=hl;have c0:w.cell? ⟨b,o,none⟩=some (.int .i64 2):=hn 0 (by simp[Nd.cs,ndC]);have c2:w.cell? ⟨b,o+2,none⟩=some (.slice (some ⟨kb,0,none⟩) 2 2):=hn 2 (by simp[Nd.cs,ndC]);have HN:=lh c2;have H0:=lh c0;have H1:=lh h1;have H2:=lh h2;clear hn h1 h2;go_enter Tryz.func65,Tryz.ntmps65
 go_upto_region 3 with fail
 clear c0 c2
 go_loopw [3,11] (fun v3 v wr=>∃i:Nat,v3=.int .i64 i/\v=.int .i64 i/\i<=2/\Ext w wr) (fun _ v _=>2-(intOf v).toNat)
 case atStart=>exact⟨0,rfl,rfl,om,Ext.rfl' _⟩
 case round=>
  obtain⟨i,rfl,rfl,hi,x1⟩:=hrel;have c2:=x1.cell HN.out;have c0:=x1.cell H0.out;have h3:i=0\/i=1\/i=2:=om;rcases h3 with rfl|rfl|rfl
  ·have HC:=lh (lenS_any wr kb 0 x (H1.out.ext x1))
   go_wp2_with (go_at_call 65;refine HC.out.mono ?_;rintro e w1 ⟨rfl,y1⟩;have X2:=lh (x1.trans y1))
   go_roundw
   case rel=>exact⟨1,by go_num,by go_num,by decide,X2.out⟩
   case measure=>simp[intOf]
  ·have HC:=lh (lenS_any wr kb 8 y (H2.out.ext x1))
   go_wp2_with (go_at_call 65;refine HC.out.mono ?_;rintro e w1 ⟨rfl,y1⟩;have X2:=lh (x1.trans y1))
   go_roundw
   case rel=>exact⟨2,by go_num,by go_num,by decide,X2.out⟩
   case measure=>simp[intOf]
  ·go_wp2_with fail
   go_ret
   exact⟨rfl,x1⟩
def patC (kb:Nat):Array Value:=#[.int .i64 2,.slice none 0 0,.slice (some ⟨kb,0,none⟩) 2 2,.int .i64 0,.int .i64 0,.int .i64 0,.int .i64 0,.bool false,.int .i64 0,.bool false]
theorem patC_ct {w:World}{gp kb:Nat}{x y:Sp}(h:Blk w gp 36 (patC kb))(h1:LfAt w kb 0 x)(h2:LfAt w kb 8 y):CtAt w gp 0 kb x y:=by
 refine⟨.int .i64 0,.int .i64 0,fun i hi=>?_,h1,h2⟩;have hi8:i<8:=by simpa[Nd.cs,ndC] using hi
 rw[Nat.zero_add,h.cell i];have:i=0\/i=1\/i=2\/i=3\/i=4\/i=5\/i=6\/i=7:=om;rcases this with rfl|rfl|rfl|rfl|rfl|rfl|rfl|rfl<;>rfl
theorem validC_any (w:World)(kb:Nat)(x y:Sp)(T:Nat)(cs:Array Value)(hkb:Blk w kb T cs)(h1:LfAt w kb 0 x)(h2:LfAt w kb 8 y):Calls Tryz.prog 63 #[.agg (patC kb)] w (RetV (.int .i64 0) w):=by
 have X0:=Ext.alloc w (.cells (patC kb) 36);have B0:=Blk.new w 36 (patC kb);unfold patC at X0 B0;unfold patC;go_enter Tryz.func63,Tryz.ntmps63
 go_upto_region 1 with fail
 obtain⟨gp,hgp⟩:∃g,g=w.heap.size:=⟨_,rfl⟩
 rw[<-hgp] at B0 ⊢;have Hgp:=lh hgp;clear hgp;generalize w.alloc (.cells #[.int .i64 2,.slice none 0 0,.slice (some ⟨kb,0,none⟩) 2 2,.int .i64 0,.int .i64 0,.int .i64 0,.int .i64 0,.bool false,.int .i64 0,.bool false] 36)=w1 at *;have X1:=Ext.alloc w1 (.cells #[.int .i64 0] 3);have B1:=Blk.new w1 3 #[.int .i64 0]
 go_upto_region 2 with fail
 obtain⟨gs,hgs⟩:∃g,g=w1.heap.size:=⟨_,rfl⟩
 rw[<-hgs] at B1 ⊢;have Hgs:=lh hgs;clear hgs;generalize w1.alloc (.cells #[.int .i64 0] 3)=w2 at *;have B0':=B0.ext X1;have p8:w2.cell? ⟨gp,8,none⟩=some (.int .i64 0):=B0'.cell 8;have p9:w2.cell? ⟨gp,9,none⟩=some (.bool false):=B0'.cell 9;have X2:=Ext.alloc w2 (.cells #[.bool true] 4);have B2:=Blk.new w2 4 #[.bool true]
 go_upto_region 3 with fail
 obtain⟨gg,hgg⟩:∃g,g=w2.heap.size:=⟨_,rfl⟩
 rw[<-hgg] at B2 ⊢;have Hgg:=lh hgg;clear hgg;generalize w2.alloc (.cells #[.bool true] 4)=w3 at *;replace p8:=X2.cell p8;replace p9:=X2.cell p9
 go_upto_region 4 with(go_at_call 120;refine(topH_any w3).mono ?_;rintro e w4 ⟨rfl,x4⟩;have HX4:=lh x4)
 have X4:=Ext.alloc w4 (.cells #[.int .i64 255] 3);have B4:=Blk.new w4 3 #[.int .i64 255];obtain⟨gt,hgt⟩:∃g,g=w4.heap.size:=⟨_,rfl⟩
 rw[<-hgt] at B4 ⊢;have hne:gs≠gt:=by have h1:=(B1.ext X2).lt;have h2:=HX4.out.size;omega
 clear hgt;generalize w4.alloc (.cells #[.int .i64 255] 3)=w5 at *
 go_upto_region 5 with fail
 have X5:=Ext.alloc w5 (.cells #[.nilFunc] 227);have B5:=Blk.new w5 227 #[.nilFunc];obtain⟨gw,hgw⟩:∃g,g=w5.heap.size:=⟨_,rfl⟩
 rw[<-hgw] at B5 ⊢;have hlow:w5.heap.size<=gw:=om;clear hgw;generalize w5.alloc (.cells #[.nilFunc] 227)=w6 at *;have z0:w6.cell? ⟨gw,0,none⟩=some .nilFunc:=B5.cell 0;have z1:=B5.frz 0;obtain⟨FN,hFN⟩:∃FN,FN=Value.func (Fn.func 121) #[] #[.pointer (some ⟨gs,0,none⟩),.pointer (some ⟨gg,0,none⟩),.pointer (some ⟨gp,0,none⟩),.pointer (some ⟨gt,0,none⟩),.pointer (some ⟨gw,0,none⟩)]:=⟨_,rfl⟩;have B6:Blk (w6.setCell ⟨gw,0,none⟩ FN) gw 227 #[FN]:=Blk.set B5 0 FN;have X6:Ext w5 (w6.setCell ⟨gw,0,none⟩ FN):=X5.setNew (p:=⟨gw,0,none⟩) hlow FN;rw[hFN] at B6 X6;have hst:(store ⟨gw,0,none⟩ (.func (Fn.func 121) #[] #[.pointer (some ⟨gs,0,none⟩),.pointer (some ⟨gg,0,none⟩),.pointer (some ⟨gp,0,none⟩),.pointer (some ⟨gt,0,none⟩),.pointer (some ⟨gw,0,none⟩)])).run Tryz.prog w6=.ok () (w6.setCell ⟨gw,0,none⟩ (.func (Fn.func 121) #[] #[.pointer (some ⟨gs,0,none⟩),.pointer (some ⟨gg,0,none⟩),.pointer (some ⟨gp,0,none⟩),.pointer (some ⟨gt,0,none⟩),.pointer (some ⟨gw,0,none⟩)])):=by
  rw[run_store Tryz.prog w6 _ _ _ rfl,z0];simp[z1]
 go_upto_region 6 with fail
 generalize w6.setCell ⟨gw,0,none⟩ (.func (Fn.func 121) #[] #[.pointer (some ⟨gs,0,none⟩),.pointer (some ⟨gg,0,none⟩),.pointer (some ⟨gp,0,none⟩),.pointer (some ⟨gt,0,none⟩),.pointer (some ⟨gw,0,none⟩)])=w7 at *;clear hFN z0 z1 hst B5 X5;have XA:=lh (X4.trans X6);have XB:=lh (HX4.out.trans XA.out);have XC:=lh (X2.trans XB.out);have XD:=lh (X1.trans XC.out);have XE:=lh (X0.trans XD.out);have V7:VB w7 gs gg gp gt gw 0:=⟨B1.ext XC.out,B2.ext XB.out,⟨_,B0'.ext XC.out,rfl⟩,B4.ext X6,B6,hne⟩;have hct:=patC_ct (w:=w7) (B0'.ext XC.out) (h1.ext XE.out) (h2.ext XE.out);have hnv:NoV gs gg gp:=V7.noP (B0'.ext XC.out) de de;have hks:kb<w.heap.size:=hkb.lt;have hnk:NoV gs gg kb:=fun e=>by
  have a1:=Hgs.out;have a2:=Hgg.out;have a3:=X0.size;have a4:=X1.size;rcases e with e|e<;>omega
 have HC:=lh (valid1C_any w7 gs gg gp gt gw 0 V7 om gp 0 kb x y 1 om hnv hnk hct);have w00:w7.cell? ⟨gw,0,none⟩=some (.func (Fn.func 121) #[] #[.pointer (some ⟨gs,0,none⟩),.pointer (some ⟨gg,0,none⟩),.pointer (some ⟨gp,0,none⟩),.pointer (some ⟨gt,0,none⟩),.pointer (some ⟨gw,0,none⟩)]):=V7.f.cell 0;have HLO:Hid (w.heap.size<=gs/\w.heap.size<=gg):=lh (by have a1:=Hgs.out;have a2:=Hgg.out;have a3:=X0.size;have a4:=X1.size;omega);clear B0 B1 B2 B4 B6 B0' p8 p9 X0 X1 X2 x4 X4 X6 hne hct hnv hnk V7 h1 h2 hkb
 go_upto_region 7 with(go_at_call 121;refine HC.out.mono ?_;rintro e w8 ⟨rfl,v8,k8⟩;have g8:w8.cell? ⟨gg,0,none⟩=some (.bool true):=v8.g.cell 0)
 go_ret
 exact⟨rfl,Ext.kp XE.out k8 (fun i hi=>by rcases hi with rfl|rfl;exact HLO.out.1;exact HLO.out.2)⟩
def setPg (w:World)(g:Nat)(A:Option Addr)(n c:Nat)(caps:Int)(rn:Bool):World:=((w.setCell ⟨g,0,none⟩ (.slice A n c)).setCell ⟨g,1,none⟩ (.int .i64 caps)).setCell ⟨g,2,none⟩ (.bool rn)
theorem setPg_blk {w:World}{g T:Nat}{a0 a1 a2:Value}(h:Blk w g T #[a0,a1,a2])(A:Option Addr)(n c:Nat)(caps:Int)(rn:Bool):Blk (setPg w g A n c caps rn) g T #[.slice A n c,.int .i64 caps,.bool rn]:=by
 have h:=((h.set 0 (.slice A n c)).set 1 (.int .i64 caps)).set 2 (.bool rn)
 simpa[setPg] using h
theorem setPg_ext {a w:World}{g:Nat}(h:Ext a w)(hg:a.heap.size<=g)(A:Option Addr)(n c:Nat)(caps:Int)(rn:Bool):Ext a (setPg w g A n c caps rn):=
 ((h.setNew (p:=⟨g,0,none⟩) hg _).setNew (p:=⟨g,1,none⟩) hg _).setNew (p:=⟨g,2,none⟩) hg _
theorem setPg_kp {L:List Nat}{a w:World}{g:Nat}(h:Kp L a w)(hg:g∈L)(A:Option Addr)(n c:Nat)(caps:Int)(rn:Bool):Kp L a (setPg w g A n c caps rn):=
 ((h.set (p:=⟨g,0,none⟩) (.inl hg) _).set (p:=⟨g,1,none⟩) (.inl hg) _).set (p:=⟨g,2,none⟩) (.inl hg) _
theorem setPg_kpp {p:Nat->Prop}{a w:World}{g:Nat}(h:KpP p a w)(hg:p g)(A:Option Addr)(n c:Nat)(caps:Int)(rn:Bool):KpP p a (setPg w g A n c caps rn):=
 ((h.set (x:=⟨g,0,none⟩) (.inl hg) _).set (x:=⟨g,1,none⟩) (.inl hg) _).set (x:=⟨g,2,none⟩) (.inl hg) _
def inD:Hin:=⟨0,0,0,0,none,0,[]⟩
def RetCm (x y:Sp)(w:World)(e:Ending)(w':World):Prop:=∃(A:Option Addr) (c:Nat) (hs:List Hin),e=.returned (.tuple #[.agg #[.slice A hs.length c,.int .i64 0,.bool false],.int .i64 0])/\(∃h1 h2,InS x h1/\InS y h2/\hs=[h1,h2,inD])/\PL w' A c hs/\Ext w w'
theorem flat_blk {w:World}{g T:Nat}{h:Hin}(hb:Blk w g T #[.int .i64 h.op,.int .i64 h.x,.int .i64 h.y,.int .i64 h.n,.slice h.A h.l.length h.c]):CellsAt w (some ⟨g,0,none⟩) (flatN [h]):=blk_cells hb
theorem compileC_any (w:World)(kb:Nat)(x y:Sp)(T:Nat)(cs:Array Value)(hkb:Blk w kb T cs)(h1:LfAt w kb 0 x)(h2:LfAt w kb 8 y) :
 Calls Tryz.prog 12 #[.agg (patC kb)] w (RetCm x y w):=by
 obtain⟨B0,B2,E0⟩:=alloc2 w 36 (patC kb) 31 #[.slice none 0 0,.int .i64 0,.bool false];obtain⟨iN,jN0,jN1,jN2,jN3⟩:=info_parts infoIs;have HKB:=lh hkb;have H1:=lh h1;have H2:=lh h2;have hkl:=hkb.lt;clear hkb h1 h2;unfold patC at B0 B2 E0;have HVV:=fun(w':World) (y':Ext w w')=>lh (validC_any w' kb x y T cs (HKB.out.ext y') (H1.out.ext y') (H2.out.ext y'));unfold patC at HVV ⊢;go_enter Tryz.func12,Tryz.ntmps12
 go_upto_region 1 with fail
 obtain⟨g1,hg1⟩:∃g,g=w.heap.size:=⟨_,rfl⟩;obtain⟨g2,hg2e⟩:∃g,g=w.heap.size+1:=⟨_,rfl⟩
 rw[<-hg2e] at B2 ⊢
 rw[<-hg1] at B0 ⊢;have hne:g1≠g2:=om;have hg2:w.heap.size<=g2:=om;clear hg1 hg2e;generalize ((w.alloc (.cells #[.int .i64 2,.slice none 0 0,.slice (some ⟨kb,0,none⟩) 2 2,.int .i64 0,.int .i64 0,.int .i64 0,.int .i64 0,.bool false,.int .i64 0,.bool false] 36)).alloc (.cells #[.slice none 0 0,.int .i64 0,.bool false] 31))=wa at *;have HXa:=lh E0;have z0:wa.cell? ⟨g1,0,none⟩=some (.int .i64 2):=B0.cell 0;have z1:wa.cell? ⟨g1,1,none⟩=some (.slice none 0 0):=B0.cell 1;have z2:wa.cell? ⟨g1,2,none⟩=some (.slice (some ⟨kb,0,none⟩) 2 2):=B0.cell 2;have z3:wa.cell? ⟨g1,3,none⟩=some (.int .i64 0):=B0.cell 3;have z4:wa.cell? ⟨g1,4,none⟩=some (.int .i64 0):=B0.cell 4;have z5:wa.cell? ⟨g1,5,none⟩=some (.int .i64 0):=B0.cell 5;have z6:wa.cell? ⟨g1,6,none⟩=some (.int .i64 0):=B0.cell 6;have z7:wa.cell? ⟨g1,7,none⟩=some (.bool false):=B0.cell 7;have z8:wa.cell? ⟨g1,8,none⟩=some (.int .i64 0):=B0.cell 8;have z9:wa.cell? ⟨g1,9,none⟩=some (.bool false):=B0.cell 9;clear E0;have HV:=HVV wa HXa.out
 go_upto_region 2 with(go_at_call 63;refine HV.out.mono ?_;rintro e w3 ⟨rfl,x3⟩)
 have HX3:=lh (HXa.out.trans x3);have B03:=B0.ext x3;have B3:=B2.ext x3;have HCT:Hid (CtAt w3 g1 0 kb x y):=lh (patC_ct B03 (H1.out.ext HX3.out) (H2.out.ext HX3.out));have HCP:=lh (compC_any w3 g1 0 kb x y HCT.out);clear z0 z1 z2 z3 z4 z5 z6 z7 z8 z9 x3 HV HVV B0 B2
 go_upto_region 6 with(go_at_call 64;refine HCP.out.mono ?_;rintro e w4 ⟨rfl,x4⟩)
 have HCL:=lh (lenC_any w4 g1 0 kb x y (HCT.out.ext x4))
 go_upto_region 8 with(go_at_call 65;refine HCL.out.mono ?_;rintro e w5 ⟨rfl,x5⟩)
 have B5:=B3.ext (x4.trans x5);have B05:=B03.ext (x4.trans x5);have HX5:=lh (HX3.out.trans (x4.trans x5));have HCT5:=lh (HCT.out.ext (x4.trans x5));have k8:w5.cell? ⟨g1,8,none⟩=some (.int .i64 0):=B05.cell 8;have k9:w5.cell? ⟨g1,9,none⟩=some (.bool false):=B05.cell 9;have HGG:=lh B5.lt;have HB5:=lh B5;have HG1:=lh B05.lt;have q8:=fun(w':World) (h:Kp [g2] w5 w')=>h.cell k8 (by simp[hne]);have q9:=fun(w':World) (h:Kp [g2] w5 w')=>h.cell k9 (by simp[hne]);have hkb5:kb<w5.heap.size:=by have:=HX5.out.size;omega
 clear x4 x5 B3 B03 HCP HCL HCT B5 B05 k8 k9;refine Xr.start [g2] kr ?_;refine Xtk 0 ?_;refine Xtk 2 ?_;refine Xtk 5 ?_
 iterate 3(refine Xtn ?_)
 refine Xr.lazy 3 23 4 (fun g=>.slice (some ⟨g,0,none⟩) 1 1) 133 #[.int .i64 0,.int .i64 0,.int .i64 0,.int .i64 0,.slice none 0 0] rfl (by simpa using HGG.out) dK si (fun w'=>by go_simp) ?_;refine Xcl 1 fun w6 hE6 hK6 K hKK=>?_;have hs6:=hE6.size;have HCD:=codeC_any w6 g1 0 kb x y (HCT5.out.ext hE6) (by have:=HG1.out;omega) om;go_simp;refine HCD.mono ?_;rintro e w7 ⟨A7,c7,hs7,rfl,hct7,ho7,hit7,x7⟩;refine hKK _ _ x7 ?_;clear hKK HCD;refine ptm ?_;have HAW:=OwnS.row ho7;have hup7:∀k,A7.map (·.block)=some k->w6.heap.size<=k/\k<w7.heap.size:=fun k hk=>⟨HAW k hk,(OwnS.blt ho7 hk).1⟩;have hl7:hs7.length=2:=by
  rcases hct7 with⟨h,_⟩|⟨h,_⟩|⟨_,a,b,_,_,rfl⟩
  ·cases h
  ·cases h
  ·rfl
 have HL7:=lh hl7;clear hl7;refine Xr.stepZ rfl dK (fun _=>by rfl) (fun w8 g8 hE8 hK8 hg8 hB8 hno K hKK=>?_);have hl7:=HL7.out;refine wp_app _ _ _ _ rfl w6.heap.size 133 iN _ 5 56 Tryz.underlying29 jN0 jN1 jN2 jN3 rfl om A7 hs7.length c7 (flatN hs7) rfl (OwnS.ext ho7 hE8) _ 1 1 (flatN [inD]) rfl rfl (flat_blk (h:=inD) hB8) (flatN_one _) um om (by have:=(x7.trans hE8).size;omega) ?_;intro A9 c9 w9 h9 hg9 hat9;clear hl7;have x69:Ext w6 w9:=Ext.app (x7.trans hE8) (OwnS.ext ho7 hE8) hg9;have x59:=hE6.trans x69;have kg9:=KpP.of_grown hg9;have hA7:∀b,A7.map (·.block)=some b->∃cur,w8.heap[b]? = some (.cells cur 133 (0,0)):=fun b e=>by
  rcases OwnS.form (OwnS.ext ho7 hE8) with⟨rfl,_⟩|⟨g,cur,rfl,_,hh,_⟩
  ·cases e
  ·injection e with e;subst e;exact⟨cur,hh⟩
 have IT9:Hid (∀h∈hs7,h.wf/\OwnP w9 0 h.A h.c h.l/\∀s∈h.l,I64 s.1/\I64 s.2):=lh (fun h hh=>by
  obtain⟨a1,a2,a3⟩:=hit7 h hh;refine⟨a1,OwnP.kp (OwnS.ext a2 hE8) kg9 (fun b e1 e2=>?_),a3⟩;obtain⟨cur,hc⟩:=hA7 b e2;rcases OwnS.form (OwnS.ext a2 hE8) with⟨e3,_⟩|⟨g,cur',e3,_,hh',_⟩
  ·rw[e3] at e1;cases e1
  ·rw[e3] at e1;injection e1 with e1;subst e1;exact Blk.neT hh' hc de rfl)
 refine hKK _ _ (WI_grown hg9 (fun i hi=>.inr ⟨(w6.heap.size,w7.heap.size),by simp,(hup7 i hi).1,(hup7 i hi).2⟩)) (Kp.of_ext x59) ?_;clear hKK;refine ptm ?_;refine Xtk 9 ?_
 rw[<-flatN_append] at h9;have H9:=lh h9;clear h9 hg9 hat9 ho7 HAW hup7 hA7 kg9 hit7;refine Xsp 10 fun w10 hE10 hK10 K hKK=>?_;have B10:=HB5.out.ext (x59.trans hE10);obtain⟨y0,y1,y2,f0,f1,f2,_⟩:=B10.c3;go_simp;change K _ (setPg w10 g2 A9 (hs7.length+1) c9 0 false);refine hKK _ _ (setPg_kpp (KpP.refl _ _) (.inl si) _ _ _ _ _) (setPg_kp hK10 si _ _ _ _ _) ?_;clear hKK;refine ptm ?_;refine Xtk 11 ?_;refine Xdn fun w12 hE12 hK12=>?_;have b9:=(setPg_blk B10 A9 (hs7.length+1) c9 0 false).ext hE12;have x12:=(setPg_ext (HX5.out.trans (x59.trans hE10)) hg2 A9 (hs7.length+1) c9 0 false).trans hE12;have kk:KpP (·=g2) w10 (setPg w10 g2 A9 (hs7.length+1) c9 0 false):=setPg_kpp (KpP.refl (·=g2) w10) rfl A9 (hs7.length+1) c9 0 false;have HP:Hid (PL w12 A9 c9 (hs7++[inD])):=lh (by
  have h6:=hE6.size;have hlt:=HGG.out;have o10:=OwnS.kp (OwnS.ext H9.out hE10) kk (fun b h1 h2=>by have h3:=OwnS.row H9.out b h1;have h4:b=g2:=h2;omega);have o12:=OwnS.ext o10 hE12;rw[show hs7.length+1=(hs7++[inD]).length by simp] at o12;have it:∀h∈hs7,h.wf/\SL w12 h.A h.c h.l:=fun h hh=>by
   obtain⟨a1,a2,a3⟩:=IT9.out h hh;have hb10:Blk w10 g2 31 _:=B10;have a4:=OwnP.kp (OwnS.ext a2 hE10) kk (fun b e1 e2=>by
    have e2':b=g2:=e2;rcases OwnS.form (OwnS.ext a2 hE10) with⟨e3,_⟩|⟨g,cur',e3,_,hh',_⟩
    ·rw[e3] at e1;cases e1
    ·rw[e3] at e1;injection e1 with e1;exact Blk.neT hh' B10 de (e1.trans e2'))
   exact⟨a1,SL.of_own (OwnS.ext a4 hE12) a3⟩
  refine PL.of_own o12 (fun z hz=>?_) (fun z hz=>?_)
  ·rcases List.mem_append.1 hz with hz|hz
   ·exact(it z hz).1
   ·rw[List.mem_singleton.1 hz];simp[Hin.wf,I64,inD]
  ·rcases List.mem_append.1 hz with hz|hz
   ·exact(it z hz).2
   ·rw[List.mem_singleton.1 hz];exact SL.nil _)
 have HH:Hid (∃h1 h2,InS x h1/\InS y h2/\hs7++[inD]=[h1,h2,inD]):=lh (by
  rcases hct7 with⟨h,_⟩|⟨h,_⟩|⟨_,a,b,h1,h2,rfl⟩
  ·cases h
  ·cases h
  ·exact⟨a,b,h1,h2,rfl⟩)
 have HLN:Hid ((hs7++[inD]).length=hs7.length+1):=lh si;clear H9 hE12 hK12 hE10 hK10 B10 kk IT9 hct7;obtain⟨r0,r1,r2,_⟩:=b9.c3
 go_wp2_with fail
 refine bodyPost_ret (v:=.tuple #[.agg #[.slice A9 (hs7.length+1) c9,.int .i64 0,.bool false],.int .i64 0]) (by simp[results,Tryz.results12,go_sem,r0,r1,r2]) rfl ⟨A9,c9,hs7++[inD],by rw[HLN.out],HH.out,HP.out,x12⟩
end
end Go.Proofs.YtmpcoifnpflapaaGreat
