/- Texts of this proof: M6 M7 OA OB O2 O6 O7. -/
import Derived.Test.YtmocoldobnimfaaGreatRS18
import Derived.Maps.AppendAt
set_option linter.all false
set_option maxRecDepth 100000
set_option maxHeartbeats 16000000
namespace Go.Proofs.YtmocoldobnimfaaGreat
section
open Go.RowKit
attribute [local go_sem ↓] Go.wp_at_zero Go.wp_at_succ
def CtI (x y:Int)(i:Nat)(hs:List Hin):Prop:=(i=0/\hs=[])\/(i=1/\∃h,InS x h/\hs=[h])\/(i=2/\∃h h2,InS x h/\InS y h2/\hs=[h,h2])
def RetWc (wE:World)(base gc:Nat)(x y:Int)(e:Ending)(w':World):Prop:=e=.returned (.tuple #[])/\∃hs,CtI x y 2 hs/\CX w' base gc hs/\Ext wE w'
theorem wrnd {P:Prop}(h:P:=by
 obtain⟨A,c,hb,hown⟩:=hcr.ex;have c5:wr.cell? ⟨gw,0,none⟩=some (.func (Fn.func 182) #[] #[.pointer (some ⟨gq,0,none⟩),.pointer (some ⟨gw,0,none⟩),.pointer (some ⟨ga,0,none⟩),.pointer (some ⟨gr,0,none⟩)]):=hwr.w.cell 0;have c1:wr.cell? ⟨b,o+2,none⟩=some (.slice (some ⟨kb,0,none⟩) 2 2):=xr.cell HK.out;have nq:gw∉gc::bl A:=fun e=>by
  rcases List.mem_cons.1 e with e|e
  ·exact Blk.neT hwr.w hb de e
  ·have e':=bl.mem e;rcases OwnS.form hown with⟨rfl,_⟩|⟨g,cur,rfl,_,hh,_⟩
   ·cases e'
   ·injection e' with e';exact Blk.neT hwr.w hh de e'.symm
 have nb:b∉gc::bl A:=fun e=>by
  rcases List.mem_cons.1 e with e|e
  ·omega
  ·have:=OwnS.row hown b (bl.mem e);omega
 have d0:=fun(w':World) (h:Kp (gc::bl A) wr w')=>h.cell c5 nq;have d1:=fun(w':World) (h:Kp (gc::bl A) wr w')=>h.cell c1 nb;have HB:=lh hb;have HCR:=lh hcr;have HWR:=lh hwr;have HXR:=lh xr;have hsr:base<=wr.heap.size:=by have:=hb.lt;omega
 clear c5 c1 nq nb hb hown hcr hwr xr
 go_upto_region 9 with fail
 refine Xr.start (gc::bl A) kr ?_;refine Xtk 0 ?_
 iterate 6(refine Xtn ?_)
 clear d0 d1;refine Xsp 7 fun w5 hE5 hK5 K hKK=>?_;go_simp;refine(writeS_any wE w5 base gc gq gw ga gr hE hbg (HXR.out.trans hE5) (by have:=hE5.size;omega) (HWR.out.ext hE5) _ (HCR.out.ext hE5) si kb _ _ HLF.out hkbl).mono ?_;rintro e w6 ⟨rfl,h,hin,hcx,hw6,hpw⟩;have kp6:=hpw A _ c (HB.out.ext hE5);refine hKK _ _ (WI_kp kp6 CQ.mem) (hK5.kpP kp6 CQ.mem) ?_;clear hKK;refine ptm ?_;refine Xdn fun w7 hE7 hK7=>?_;have HC7:=lh (hcx.1.ext hE7);have HX7:=lh (hcx.2.1.trans hE7);have HW7:=lh (hw6.ext hE7);have HIN:=lh hin;clear hE5 hK5 hE7 hK7 hcx hw6 hpw kp6 hin
 go_wp2_with fail
 go_roundw
 case rel=>first|exact⟨1,_,by go_num,by decide,.inr (.inl ⟨rfl,h,HIN.out,rfl⟩),HC7.out,HX7.out,HW7.out⟩|exact⟨2,_,by go_num,by decide,.inr (.inr ⟨rfl,h1,h,hin1,HIN.out,rfl⟩),HC7.out,HX7.out,HW7.out⟩
 case measure=>simp[intOf]):P:=h
theorem writeC_any (wE w:World)(base gc gq gw ga gr:Nat)(hE:wE.heap.size<=base)(hbg:base<=gc)(xE:Ext wE w)(hwb:WB w gc gq gw ga gr)(hc:CX w base gc [])(b o kb:Nat)(x y:Int)(hct:CtAt wE b o kb x y)(hbl:b<wE.heap.size)(hkbl:kb<wE.heap.size) :
 Calls Tryz.prog 182 #[.pointer (some ⟨b,o,none⟩),.pointer (some ⟨gq,0,none⟩),.pointer (some ⟨gw,0,none⟩),.pointer (some ⟨ga,0,none⟩),.pointer (some ⟨gr,0,none⟩)] w (RetWc wE base gc x y):=by
 obtain⟨u,v,hn,hl1,hl2⟩:=hct;have HK:Hid (wE.cell? ⟨b,o+2,none⟩=some (.slice (some ⟨kb,0,none⟩) 2 2)):=lh (hn 2 (by simp[Nd.cs,ndC]));have c0:w.cell? ⟨b,o,none⟩=some (.int .i64 2):=xE.cell (hn 0 (by simp[Nd.cs,ndC]));have c2:=xE.cell HK.out;have HL1:=lh hl1;have HL2:=lh hl2;clear hn hl1 hl2;go_enter Tryz.func182,Tryz.ntmps182
 go_upto_region 7 with fail
 clear c0 c2
 go_loopw [37] (fun v wr=>∃(i:Nat) (hs:List Hin),v=.int .i64 i/\i<=2/\CtI x y i hs/\CX wr base gc hs/\Ext wE wr/\WB wr gc gq gw ga gr) (fun v _=>2-(intOf v).toNat)
 case atStart=>exact⟨0,[],rfl,om,.inl ⟨rfl,rfl⟩,hc,xE,hwb⟩
 case round=>
  clear hc xE hwb;obtain⟨i,hs,rfl,hi,hct,hcr,xr,hwr⟩:=hrel;rcases hct with⟨rfl,rfl⟩|⟨rfl,h1,hin1,rfl⟩|⟨rfl,h1,h2,hin1,hin2,rfl⟩
  ·have HLF:=HL1;exact wrnd
  ·have HLF:=HL2;exact wrnd
  ·go_wp2_with fail
   exact bodyPost_end (v:=.tuple #[]) (by simp[results,Tryz.results182,go_sem]) rfl ⟨rfl,_,.inr (.inr ⟨rfl,h1,h2,hin1,hin2,rfl⟩),hcr,xr⟩
theorem store_blkF {w:World}{g T:Nat}{v:Value}(h:Blk w g T #[v])(f:Nat)(cs:Array Value):(store ⟨g,0,none⟩ (.func (Fn.func f) #[] cs)).run Tryz.prog w=.ok () (w.setCell ⟨g,0,none⟩ (.func (Fn.func f) #[] cs)):=by
 have z0:w.cell? ⟨g,0,none⟩=some v:=h.cell 0;rw[run_store Tryz.prog w _ _ _ rfl,z0];simp[h.frz 0]
def RetCo (x y:Int)(w:World)(e:Ending)(w':World):Prop:=∃A c hs,e=.returned (.slice A hs.length c)/\CtI x y 2 hs/\OwnS w' w.heap.size 126 5 A hs.length c (flatN hs)/\(∀h∈hs,h.wf/\OwnP w' 0 h.A h.c h.l/\∀s∈h.l,I64 s.1/\I64 s.2)/\Ext w w'
theorem codeC_any (w:World)(b o kb:Nat)(x y:Int)(hct:CtAt w b o kb x y)(hbl:b<w.heap.size)(hkbl:kb<w.heap.size) :
 Calls Tryz.prog 147 #[.pointer (some ⟨b,o,none⟩)] w (RetCo x y w):=by
 have X1:=Ext.alloc w (.cells #[.slice none 0 0] 46);have B1:=Blk.new w 46 #[.slice none 0 0];go_enter Tryz.func147,Tryz.ntmps147
 go_upto_region 2 with fail
 obtain⟨gc,hgc⟩:∃g,g=w.heap.size:=⟨_,rfl⟩
 rw[<-hgc] at B1 ⊢;have HGC:=lh hgc;clear hgc;generalize w.alloc (.cells #[.slice none 0 0] 46)=w1 at *;have B2:=Blk.new w1 283 #[.nilFunc];have hst:=store_blkF B2 178 #[.pointer (some ⟨gc,0,none⟩)];have X2:=Ext.alloc w1 (.cells #[.func (Fn.func 178) #[] #[.pointer (some ⟨gc,0,none⟩)]] 283);have B3:Blk (w1.alloc (.cells #[.func (Fn.func 178) #[] #[.pointer (some ⟨gc,0,none⟩)]] 283)) w1.heap.size 283 #[.func (Fn.func 178) #[] #[.pointer (some ⟨gc,0,none⟩)]]:=Blk.new w1 _ _
 go_upto_region 3 with fail
 generalize w1.alloc (.cells #[.func (Fn.func 178) #[] #[.pointer (some ⟨gc,0,none⟩)]] 283)=w2 at *;clear hst B2;obtain⟨gq,hgq⟩:∃g,g=w1.heap.size:=⟨_,rfl⟩
 rw[<-hgq] at B3 ⊢;clear hgq;have X4:=Ext.alloc w2 (.cells #[.nilFunc] 284);have B4:=Blk.new w2 284 #[.nilFunc]
 go_upto_region 4 with fail
 obtain⟨gw,hgw⟩:∃g,g=w2.heap.size:=⟨_,rfl⟩
 rw[<-hgw] at B4 ⊢;have HGW:=lh hgw;clear hgw;generalize w2.alloc (.cells #[.nilFunc] 284)=w3 at *;have B5:=Blk.new w3 284 #[.nilFunc];have hst:=store_blkF B5 179 #[.pointer (some ⟨gw,0,none⟩),.pointer (some ⟨gq,0,none⟩),.pointer (some ⟨gc,0,none⟩)];have X5:=Ext.alloc w3 (.cells #[.func (Fn.func 179) #[] #[.pointer (some ⟨gw,0,none⟩),.pointer (some ⟨gq,0,none⟩),.pointer (some ⟨gc,0,none⟩)]] 284)
 go_upto_region 5 with fail
 generalize w3.alloc (.cells #[.func (Fn.func 179) #[] #[.pointer (some ⟨gw,0,none⟩),.pointer (some ⟨gq,0,none⟩),.pointer (some ⟨gc,0,none⟩)]] 284)=w4 at *;clear hst B5;obtain⟨gr,hgr⟩:∃g,g=w3.heap.size:=⟨_,rfl⟩
 rw[<-hgr];clear hgr;have B6:=Blk.new w4 286 #[.nilFunc];have hst:=store_blkF B6 181 #[.pointer (some ⟨gq,0,none⟩),.pointer (some ⟨gw,0,none⟩),.pointer (some ⟨gc,0,none⟩)];have X6:=Ext.alloc w4 (.cells #[.func (Fn.func 181) #[] #[.pointer (some ⟨gq,0,none⟩),.pointer (some ⟨gw,0,none⟩),.pointer (some ⟨gc,0,none⟩)]] 286)
 go_upto_region 6 with fail
 generalize w4.alloc (.cells #[.func (Fn.func 181) #[] #[.pointer (some ⟨gq,0,none⟩),.pointer (some ⟨gw,0,none⟩),.pointer (some ⟨gc,0,none⟩)]] 286)=w5 at *;clear hst B6;obtain⟨ga,hga⟩:∃g,g=w4.heap.size:=⟨_,rfl⟩
 rw[<-hga];clear hga;have XX:=lh (X5.trans X6);have B7:=B4.ext XX.out;have hst:=store_blkF B7 182 #[.pointer (some ⟨gq,0,none⟩),.pointer (some ⟨gw,0,none⟩),.pointer (some ⟨ga,0,none⟩),.pointer (some ⟨gr,0,none⟩)];have XE2:=lh ((X1.trans X2).trans (X4.trans XX.out));have hlow:Hid (w.heap.size<=gw):=lh (by have h1:=X1.size;have h2:=X2.size;have h3:=HGW.out;omega);have X7:=lh (XE2.out.setNew (p:=⟨gw,0,none⟩) hlow.out (.func (Fn.func 182) #[] #[.pointer (some ⟨gq,0,none⟩),.pointer (some ⟨gw,0,none⟩),.pointer (some ⟨ga,0,none⟩),.pointer (some ⟨gr,0,none⟩)]));have B8:Blk (w5.setCell ⟨gw,0,none⟩ (.func (Fn.func 182) #[] #[.pointer (some ⟨gq,0,none⟩),.pointer (some ⟨gw,0,none⟩),.pointer (some ⟨ga,0,none⟩),.pointer (some ⟨gr,0,none⟩)])) gw 284 #[.func (Fn.func 182) #[] #[.pointer (some ⟨gq,0,none⟩),.pointer (some ⟨gw,0,none⟩),.pointer (some ⟨ga,0,none⟩),.pointer (some ⟨gr,0,none⟩)]]:=Blk.set B7 0 _;have Bc:=((((B1.ext X2).ext X4).ext XX.out).far (Blk.neT (((B1.ext X2).ext X4).ext XX.out) B7 de) (p:=⟨gw,0,none⟩) (.func (Fn.func 182) #[] #[.pointer (some ⟨gq,0,none⟩),.pointer (some ⟨gw,0,none⟩),.pointer (some ⟨ga,0,none⟩),.pointer (some ⟨gr,0,none⟩)]));have Bq:=(((B3.ext X4).ext XX.out).far (Blk.neT ((B3.ext X4).ext XX.out) B7 de) (p:=⟨gw,0,none⟩) (.func (Fn.func 182) #[] #[.pointer (some ⟨gq,0,none⟩),.pointer (some ⟨gw,0,none⟩),.pointer (some ⟨ga,0,none⟩),.pointer (some ⟨gr,0,none⟩)]))
 go_upto_region 7 with fail
 generalize w5.setCell ⟨gw,0,none⟩ (.func (Fn.func 182) #[] #[.pointer (some ⟨gq,0,none⟩),.pointer (some ⟨gw,0,none⟩),.pointer (some ⟨ga,0,none⟩),.pointer (some ⟨gr,0,none⟩)])=w6 at *;clear hst B7 B1 B3 B4 X1 X2 X4 X5 X6;have c5:w6.cell? ⟨gw,0,none⟩=some (.func (Fn.func 182) #[] #[.pointer (some ⟨gq,0,none⟩),.pointer (some ⟨gw,0,none⟩),.pointer (some ⟨ga,0,none⟩),.pointer (some ⟨gr,0,none⟩)]):=B8.cell 0;have HW:=lh (writeC_any w w6 w.heap.size gc gq gw ga gr (Nat.le_refl _) (by have:=HGC.out;omega) X7.out ⟨Bq,B8⟩ ⟨⟨none,0,Bc,OwnS.nil _ _ _ _⟩,by simp⟩ b o kb x y hct hbl hkbl);clear Bq B8 Bc hct
 go_upto_region 8 with(go_at_call 182;refine HW.out.mono ?_;rintro e w7 ⟨rfl,hs,hct,hcx,x7⟩)
 obtain⟨A,c,hb,hown⟩:=hcx.ex;have c8:w7.cell? ⟨gc,0,none⟩=some (.slice A hs.length c):=hb.cell 0;have HH:=lh (And.intro hct (And.intro hown (And.intro hcx.it x7)));clear hct hcx x7 hb hown
 go_wp2_with fail
 go_ret
 exact⟨A,c,hs,rfl,HH.out⟩
def setPg (w:World)(g:Nat)(A:Option Addr)(n c:Nat)(caps:Int)(rn:Bool):World:=((w.setCell ⟨g,0,none⟩ (.slice A n c)).setCell ⟨g,1,none⟩ (.int .i64 caps)).setCell ⟨g,2,none⟩ (.bool rn)
theorem setPg_blk {w:World}{g T:Nat}{a0 a1 a2:Value}(h:Blk w g T #[a0,a1,a2])(A:Option Addr)(n c:Nat)(caps:Int)(rn:Bool):Blk (setPg w g A n c caps rn) g T #[.slice A n c,.int .i64 caps,.bool rn]:=by
 have h:=((h.set 0 (.slice A n c)).set 1 (.int .i64 caps)).set 2 (.bool rn)
 simpa[setPg] using h
theorem setPg_ext {a w:World}{g:Nat}(h:Ext a w)(hg:a.heap.size<=g)(A:Option Addr)(n c:Nat)(caps:Int)(rn:Bool):Ext a (setPg w g A n c caps rn):=
 ((h.setNew (p:=⟨g,0,none⟩) hg _).setNew (p:=⟨g,1,none⟩) hg _).setNew (p:=⟨g,2,none⟩) hg _
theorem setPg_kp {L:List Nat}{a w:World}{g:Nat}(h:Kp L a w)(hg:g∈L)(A:Option Addr)(n c:Nat)(caps:Int)(rn:Bool):Kp L a (setPg w g A n c caps rn):=
 ((h.set (p:=⟨g,0,none⟩) (.inl hg) _).set (p:=⟨g,1,none⟩) (.inl hg) _).set (p:=⟨g,2,none⟩) (.inl hg) _
theorem setPg_kpp {p:Nat->Prop}{a w:World}{g:Nat}(h:KpP p a w)(hg:p g)(A:Option Addr)(n c:Nat)(caps:Int)(rn:Bool):KpP p a (setPg w g A n c caps rn):=
 ((h.set (x:=⟨g,0,none⟩) (.inl hg) _).set (x:=⟨g,1,none⟩) (.inl hg) _).set (x:=⟨g,2,none⟩) (.inl hg) _
def inD:Hin:=⟨0,0,0,0,none,0,[]⟩
def RetCm (x y:Int)(w:World)(e:Ending)(w':World):Prop:=∃(A:Option Addr) (c:Nat) (hs:List Hin),e=.returned (.tuple #[.agg #[.slice A hs.length c,.int .i64 0,.bool false],.int .i64 0])/\(∃h1 h2,InS x h1/\InS y h2/\hs=[h1,h2,inD])/\PL w' A c hs/\Ext w w'
theorem flat_blk {w:World}{g T:Nat}{h:Hin}(hb:Blk w g T #[.int .i64 h.op,.int .i64 h.x,.int .i64 h.y,.int .i64 h.n,.slice h.A h.l.length h.c]):CellsAt w (some ⟨g,0,none⟩) (flatN [h]):=blk_cells hb
theorem compileC_any (w:World)(kb:Nat)(x y:Int)(T:Nat)(cs:Array Value)(hkb:Blk w kb T cs)(h1:LfAt w kb 0 x)(h2:LfAt w kb 8 y) :
 Calls Tryz.prog 102 #[.agg (patC kb)] w (RetCm x y w):=by
 obtain⟨B0,B2,E0⟩:=alloc2 w 28 (patC kb) 48 #[.slice none 0 0,.int .i64 0,.bool false];obtain⟨iN,jN0,jN1,jN2,jN3⟩:=info_parts infoIs;have HKB:=lh hkb;have H1:=lh h1;have H2:=lh h2;have hkl:=hkb.lt;clear hkb h1 h2;unfold patC at B0 B2 E0;have HVV:=fun(w':World) (y':Ext w w')=>lh (validC_any w' kb x y T cs (HKB.out.ext y') (H1.out.ext y') (H2.out.ext y'));unfold patC at HVV ⊢;go_enter Tryz.func102,Tryz.ntmps102
 go_upto_region 1 with fail
 obtain⟨g1,hg1⟩:∃g,g=w.heap.size:=⟨_,rfl⟩;obtain⟨g2,hg2e⟩:∃g,g=w.heap.size+1:=⟨_,rfl⟩
 rw[<-hg2e] at B2 ⊢
 rw[<-hg1] at B0 ⊢;have hne:g1≠g2:=om;have hg2:w.heap.size<=g2:=om;clear hg1 hg2e;generalize ((w.alloc (.cells #[.int .i64 2,.slice none 0 0,.slice (some ⟨kb,0,none⟩) 2 2,.int .i64 0,.int .i64 0,.int .i64 0,.int .i64 0,.bool false,.int .i64 0,.bool false] 28)).alloc (.cells #[.slice none 0 0,.int .i64 0,.bool false] 48))=wa at *;have HXa:=lh E0;have z0:wa.cell? ⟨g1,0,none⟩=some (.int .i64 2):=B0.cell 0;have z1:wa.cell? ⟨g1,1,none⟩=some (.slice none 0 0):=B0.cell 1;have z2:wa.cell? ⟨g1,2,none⟩=some (.slice (some ⟨kb,0,none⟩) 2 2):=B0.cell 2;have z3:wa.cell? ⟨g1,3,none⟩=some (.int .i64 0):=B0.cell 3;have z4:wa.cell? ⟨g1,4,none⟩=some (.int .i64 0):=B0.cell 4;have z5:wa.cell? ⟨g1,5,none⟩=some (.int .i64 0):=B0.cell 5;have z6:wa.cell? ⟨g1,6,none⟩=some (.int .i64 0):=B0.cell 6;have z7:wa.cell? ⟨g1,7,none⟩=some (.bool false):=B0.cell 7;have z8:wa.cell? ⟨g1,8,none⟩=some (.int .i64 0):=B0.cell 8;have z9:wa.cell? ⟨g1,9,none⟩=some (.bool false):=B0.cell 9;clear E0;have HV:=HVV wa HXa.out
 go_upto_region 2 with(go_at_call 144;refine HV.out.mono ?_;rintro e w3 ⟨rfl,x3⟩)
 have HX3:=lh (HXa.out.trans x3);have B03:=B0.ext x3;have B3:=B2.ext x3;have HCT:Hid (CtAt w3 g1 0 kb x y):=lh (patC_ct B03 (H1.out.ext HX3.out) (H2.out.ext HX3.out));have HCP:=lh (compC_any w3 g1 0 kb x y HCT.out);clear z0 z1 z2 z3 z4 z5 z6 z7 z8 z9 x3 HV HVV B0 B2
 go_upto_region 6 with(go_at_call 145;refine HCP.out.mono ?_;rintro e w4 ⟨rfl,x4⟩)
 have HCL:=lh (lenC_any w4 g1 0 kb x y (HCT.out.ext x4))
 go_upto_region 8 with(go_at_call 146;refine HCL.out.mono ?_;rintro e w5 ⟨rfl,x5⟩)
 have B5:=B3.ext (x4.trans x5);have B05:=B03.ext (x4.trans x5);have HX5:=lh (HX3.out.trans (x4.trans x5));have HCT5:=lh (HCT.out.ext (x4.trans x5));have k8:w5.cell? ⟨g1,8,none⟩=some (.int .i64 0):=B05.cell 8;have k9:w5.cell? ⟨g1,9,none⟩=some (.bool false):=B05.cell 9;have HGG:=lh B5.lt;have HB5:=lh B5;have HG1:=lh B05.lt;have q8:=fun(w':World) (h:Kp [g2] w5 w')=>h.cell k8 (by simp[hne]);have q9:=fun(w':World) (h:Kp [g2] w5 w')=>h.cell k9 (by simp[hne]);have hkb5:kb<w5.heap.size:=by have:=HX5.out.size;omega
 clear x4 x5 B3 B03 HCP HCL HCT B5 B05 k8 k9;refine Xr.start [g2] kr ?_;refine Xtk 0 ?_;refine Xtk 2 ?_;refine Xtk 5 ?_
 iterate 3(refine Xtn ?_)
 refine Xr.lazy 3 23 4 (fun g=>.slice (some ⟨g,0,none⟩) 1 1) 126 #[.int .i64 0,.int .i64 0,.int .i64 0,.int .i64 0,.slice none 0 0] rfl (by simpa using HGG.out) dK si (fun w'=>by go_simp) ?_;refine Xcl 1 fun w6 hE6 hK6 K hKK=>?_;have hs6:=hE6.size;have HCD:=codeC_any w6 g1 0 kb x y (HCT5.out.ext hE6) (by have:=HG1.out;omega) om;go_simp;refine HCD.mono ?_;rintro e w7 ⟨A7,c7,hs7,rfl,hct7,ho7,hit7,x7⟩;refine hKK _ _ x7 ?_;clear hKK HCD;refine ptm ?_;have HAW:=OwnS.row ho7;have hup7:∀k,A7.map (·.block)=some k->w6.heap.size<=k/\k<w7.heap.size:=fun k hk=>⟨HAW k hk,(OwnS.blt ho7 hk).1⟩;have hl7:hs7.length=2:=by
  rcases hct7 with⟨h,_⟩|⟨h,_⟩|⟨_,a,b,_,_,rfl⟩
  ·cases h
  ·cases h
  ·rfl
 have HL7:=lh hl7;clear hl7;refine Xr.stepZ rfl dK (fun _=>by rfl) (fun w8 g8 hE8 hK8 hg8 hB8 hno K hKK=>?_);have hl7:=HL7.out;refine wp_app _ _ _ _ rfl w6.heap.size 126 iN _ 5 56 Tryz.underlying46 jN0 jN1 jN2 jN3 rfl om A7 hs7.length c7 (flatN hs7) rfl (OwnS.ext ho7 hE8) _ 1 1 (flatN [inD]) rfl rfl (flat_blk (h:=inD) hB8) (flatN_one _) um om (by have:=(x7.trans hE8).size;omega) ?_;intro A9 c9 w9 h9 hg9 hat9;clear hl7;have x69:Ext w6 w9:=Ext.app (x7.trans hE8) (OwnS.ext ho7 hE8) hg9;have x59:=hE6.trans x69;have kg9:=KpP.of_grown hg9;have hA7:∀b,A7.map (·.block)=some b->∃cur,w8.heap[b]? = some (.cells cur 126 (0,0)):=fun b e=>by
  rcases OwnS.form (OwnS.ext ho7 hE8) with⟨rfl,_⟩|⟨g,cur,rfl,_,hh,_⟩
  ·cases e
  ·injection e with e;subst e;exact⟨cur,hh⟩
 have IT9:Hid (∀h∈hs7,h.wf/\OwnP w9 0 h.A h.c h.l/\∀s∈h.l,I64 s.1/\I64 s.2):=lh (fun h hh=>by
  obtain⟨a1,a2,a3⟩:=hit7 h hh;refine⟨a1,OwnP.kp (OwnS.ext a2 hE8) kg9 (fun b e1 e2=>?_),a3⟩;obtain⟨cur,hc⟩:=hA7 b e2;rcases OwnS.form (OwnS.ext a2 hE8) with⟨e3,_⟩|⟨g,cur',e3,_,hh',_⟩
  ·rw[e3] at e1;cases e1
  ·rw[e3] at e1;injection e1 with e1;subst e1;exact Blk.neT hh' hc de rfl)
 refine hKK _ _ (WI_grown hg9 (fun i hi=>.inr ⟨(w6.heap.size,w7.heap.size),by simp,(hup7 i hi).1,(hup7 i hi).2⟩)) (Kp.of_ext x59) ?_;clear hKK;refine ptm ?_;refine Xtk 9 ?_
 rw[<-flatN_append] at h9;have H9:=lh h9;clear h9 hg9 hat9 ho7 HAW hup7 hA7 kg9 hit7;refine Xsp 10 fun w10 hE10 hK10 K hKK=>?_;have B10:=HB5.out.ext (x59.trans hE10);obtain⟨y0,y1,y2,f0,f1,f2,_⟩:=B10.c3;go_simp;change K _ (setPg w10 g2 A9 (hs7.length+1) c9 0 false);refine hKK _ _ (setPg_kpp (KpP.refl _ _) (.inl si) _ _ _ _ _) (setPg_kp hK10 si _ _ _ _ _) ?_;clear hKK;refine ptm ?_;refine Xtk 11 ?_;refine Xdn fun w12 hE12 hK12=>?_;have b9:=(setPg_blk B10 A9 (hs7.length+1) c9 0 false).ext hE12;have x12:=(setPg_ext (HX5.out.trans (x59.trans hE10)) hg2 A9 (hs7.length+1) c9 0 false).trans hE12;have kk:KpP (·=g2) w10 (setPg w10 g2 A9 (hs7.length+1) c9 0 false):=setPg_kpp (KpP.refl (·=g2) w10) rfl A9 (hs7.length+1) c9 0 false;have HP:Hid (PL w12 A9 c9 (hs7++[inD])):=lh (by
  have h6:=hE6.size;have hlt:=HGG.out;have o10:=OwnS.kp (OwnS.ext H9.out hE10) kk (fun b h1 h2=>by have h3:=OwnS.row H9.out b h1;have h4:b=g2:=h2;omega);have o12:=OwnS.ext o10 hE12;rw[show hs7.length+1=(hs7++[inD]).length by simp] at o12;have it:∀h∈hs7,h.wf/\SL w12 h.A h.c h.l:=fun h hh=>by
   obtain⟨a1,a2,a3⟩:=IT9.out h hh;have hb10:Blk w10 g2 48 _:=B10;have a4:=OwnP.kp (OwnS.ext a2 hE10) kk (fun b e1 e2=>by
    have e2':b=g2:=e2;rcases OwnS.form (OwnS.ext a2 hE10) with⟨e3,_⟩|⟨g,cur',e3,_,hh',_⟩
    ·rw[e3] at e1;cases e1
    ·rw[e3] at e1;injection e1 with e1;exact Blk.neT hh' B10 de (e1.trans e2'))
   exact⟨a1,SL.of_own (OwnS.ext a4 hE12) a3⟩
  refine PL.of_own o12 (fun z hz=>?_) (fun z hz=>?_)
  ·rcases List.mem_append.1 hz with hz|hz
   ·exact(it z hz).1
   ·rw[List.mem_singleton.1 hz];simp[Hin.wf,I64,inD]
  ·rcases List.mem_append.1 hz with hz|hz
   ·exact(it z hz).2
   ·rw[List.mem_singleton.1 hz];exact SL.nil _)
 have HH:Hid (∃h1 h2,InS x h1/\InS y h2/\hs7++[inD]=[h1,h2,inD]):=lh (by
  rcases hct7 with⟨h,_⟩|⟨h,_⟩|⟨_,a,b,h1,h2,rfl⟩
  ·cases h
  ·cases h
  ·exact⟨a,b,h1,h2,rfl⟩)
 have HLN:Hid ((hs7++[inD]).length=hs7.length+1):=lh si;clear H9 hE12 hK12 hE10 hK10 B10 kk IT9 hct7;obtain⟨r0,r1,r2,_⟩:=b9.c3
 go_wp2_with fail
 refine bodyPost_ret (v:=.tuple #[.agg #[.slice A9 (hs7.length+1) c9,.int .i64 0,.bool false],.int .i64 0]) (by simp[results,Tryz.results102,go_sem,r0,r1,r2]) rfl ⟨A9,c9,hs7++[inD],by rw[HLN.out],HH.out,HP.out,x12⟩
theorem own_ct {w:World}{base gc g n c q:Nat}{xs:List Value}(h:OwnS w base 126 5 (some ⟨g,0,none⟩) n c xs)(hq:q<xs.length)(v:Value) :
 OwnS (w.setCell ⟨g,q,none⟩ v) base 126 5 (some ⟨g,0,none⟩) n c (xs.set q v)/\CT gc (some ⟨g,0,none⟩) w (some ⟨g,0,none⟩) (w.setCell ⟨g,q,none⟩ v):=by
 obtain⟨g',he,_,_,_,_,hst⟩:=OwnS.store h hq;injection he with he;injection he with he _ _
 subst he;refine⟨hst v,(KpP.refl _ w).set (x:=⟨g,q,none⟩) (.inl (.inr rfl)) _,.inl rfl,fun b T cs hb hT hne=>?_⟩;rcases OwnS.form h with⟨e,_⟩|⟨g2,cur,e,_,hh,_⟩
 ·cases e
 ·injection e with e;injection e with e _ _
  subst e;have hBG:Blk w g 126 cur:=hh;exact hb.far (by exact Blk.neT hb hBG hT) _
theorem own_c5 {w:World}{base c i:Nat}{A:Option Addr}{hs:List Hin}(h:OwnS w base 126 5 A hs.length c (flatN hs))(hi:i<hs.length) :
 ∃g,A=some ⟨g,0,none⟩/\base<=g/\∀k,k<5->∃v,w.cell? ⟨g,i*5+k,none⟩=some v/\w.frozen? ⟨g,i*5+k,none⟩=false:=by
 obtain⟨g,he,hb,_,_,_,_⟩:=OwnS.store h (i:=i*5) (by rw[flatN_len];omega);refine⟨g,he,hb,fun k hk=>?_⟩;obtain⟨g',he',_,h1,h2,_,_⟩:=OwnS.store h (i:=i*5+k) (by rw[flatN_len];omega);rw[he] at he';injection he' with he';injection he' with he' _ _
 subst he';exact⟨_,h1,h2⟩
def setQ5 (w:World)(g q:Nat)(op x y n:Int):World:=((((w.setCell ⟨g,q,none⟩ (.int .i64 op)).setCell ⟨g,q+1,none⟩ (.int .i64 x)).setCell ⟨g,q+2,none⟩ (.int .i64 y)).setCell ⟨g,q+3,none⟩ (.int .i64 n)).setCell ⟨g,q+4,none⟩ (.slice none 0 0)
theorem flatN_setQ5:∀(hs:List Hin) (i:Nat) (op x y n:Int) (_:i<hs.length),
 ((((((flatN hs).set (i*5) (.int .i64 op)).set (i*5+1) (.int .i64 x)).set (i*5+2) (.int .i64 y)).set (i*5+3) (.int .i64 n)).set (i*5+4) (.slice none 0 0))=flatN (hs.set i ⟨op,x,y,n,none,0,[]⟩)
 | [],i,_,_,_,_,hi=>by simp at hi
 | h::hs,0,_,_,_,_,_=>by simp[flatN_cons]
 | h::hs,i+1,op,x,y,n,hi=>by
  have ih:=flatN_setQ5 hs i op x y n (by simpa using hi);have e0:(i+1)*5=i*5+1+1+1+1+1:=om;have e2:i*5+1+1+1+1+1+2=i*5+2+1+1+1+1+1:=om;have e3:i*5+1+1+1+1+1+3=i*5+3+1+1+1+1+1:=om;have e4:i*5+1+1+1+1+1+4=i*5+4+1+1+1+1+1:=om;rw[e0,e2,e3,e4,flatN_cons];simp only[List.set_cons_succ,ih,flatN_cons]
section
variable {wE w w':World} {base gc gq gw ga gr c:Nat} {A:Option Addr} {hs hs':List Hin}
theorem CS.upd (h:CS wE base gc gq gw ga gr w A c hs)(ho:OwnS w' base 126 5 A hs'.length c (flatN hs'))(hl:hs'.length=hs.length)(hct:CT gc A w A w')(hb:Blk w' gc 46 #[.slice A hs.length c])(hx:Ext wE w')
 (hm:∀z∈hs',z.wf/\((∃u∈hs,z.A=u.A/\z.c=u.c/\z.l=u.l)\/(z.A=none/\z.c=0/\z.l=[]))):CS wE base gc gq gw ga gr w' A c hs':=by
 refine⟨by rw[hl];exact hb,ho,fun z hz=>?_,h.bx.keep h.b hct.kn,hx⟩;obtain⟨hw,⟨u,hu,e1,e2,e3⟩|⟨e1,e2,e3⟩⟩:=hm z hz
 ·obtain⟨q1,q2,q3,q4⟩:=h.it u hu;rw[e1,e2,e3];exact⟨hw,OwnS.keepN q2 hct.kn de (OwnP.ne_gc q2 h.b),q3,q4⟩
 ·rw[e1,e2,e3];exact⟨hw,OwnP.nil _ _,by simp,SetE.nil _⟩
theorem CS.put5 (h:CS wE base gc gq gw ga gr w A c hs)(hE:wE.heap.size<=base){i:Nat}(hi:i<hs.length){g:Nat}(hA:A=some ⟨g,0,none⟩){op x y n:Int}(hw:I64 op/\I64 x/\I64 y/\I64 n) :
 CS wE base gc gq gw ga gr (setQ5 w g (i*5) op x y n) A c (hs.set i ⟨op,x,y,n,none,0,[]⟩)/\CT gc A w A (setQ5 w g (i*5) op x y n):=by
 subst hA;have hl:=flatN_len hs;have ho:=h.o;obtain⟨g',he,hbg,_,_,_,_⟩:=OwnS.store ho (i:=i*5) om;injection he with he;injection he with he _ _
 subst he;have hne:gc≠g:=fun e=>own_blk ho h.b de (by rw[e];rfl);obtain⟨o1,k1⟩:=own_ct (gc:=gc) ho (q:=i*5) om (.int .i64 op);obtain⟨o2,k2⟩:=own_ct (gc:=gc) o1 (q:=i*5+1) (by simp;omega) (.int .i64 x);obtain⟨o3,k3⟩:=own_ct (gc:=gc) o2 (q:=i*5+2) (by simp;omega) (.int .i64 y);obtain⟨o4,k4⟩:=own_ct (gc:=gc) o3 (q:=i*5+3) (by simp;omega) (.int .i64 n);obtain⟨o5,k5⟩:=own_ct (gc:=gc) o4 (q:=i*5+4) (by simp;omega) (.slice none 0 0);rw[flatN_setQ5 hs i op x y n hi] at o5;have k:CT gc (some ⟨g,0,none⟩) w (some ⟨g,0,none⟩) (setQ5 w g (i*5) op x y n):=k1.trans (k2.trans (k3.trans (k4.trans k5)));refine⟨h.upd (by rw[List.length_set];exact o5) (List.length_set ..) k ((((((h.b.far hne _).far hne _).far hne _).far hne _).far hne _)) ?_ (fun z hz=>?_),k⟩
 ·exact(((((h.x.setNew (p:=⟨g,i*5,none⟩) (by show wE.heap.size<=g;omega) _).setNew (p:=⟨g,i*5+1,none⟩) (by show wE.heap.size<=g;omega) _).setNew (p:=⟨g,i*5+2,none⟩) (by show wE.heap.size<=g;omega) _).setNew (p:=⟨g,i*5+3,none⟩) (by show wE.heap.size<=g;omega) _).setNew (p:=⟨g,i*5+4,none⟩) (by show wE.heap.size<=g;omega) _)
 ·rcases List.mem_or_eq_of_mem_set hz with hz|rfl
  ·exact⟨(h.it z hz).1,.inl ⟨z,hz,rfl,rfl,rfl⟩⟩
  ·exact⟨hw,.inr ⟨rfl,rfl,rfl⟩⟩
theorem CS.putX (h:CS wE base gc gq gw ga gr w A c hs)(hE:wE.heap.size<=base){i:Nat}(hi:i<hs.length){g:Nat}(hA:A=some ⟨g,0,none⟩){v:Int}(hv:I64 v) :
 CS wE base gc gq gw ga gr (w.setCell ⟨g,i*5+1,none⟩ (.int .i64 v)) A c (hs.set i (hs[i].putI 1 v))/\CT gc A w A (w.setCell ⟨g,i*5+1,none⟩ (.int .i64 v)):=by
 subst hA;have hl:=flatN_len hs;have ho:=h.o;obtain⟨g',he,hbg,_,_,_,_⟩:=OwnS.store ho (i:=i*5) om;injection he with he;injection he with he _ _
 subst he;have hne:gc≠g:=fun e=>own_blk ho h.b de (by rw[e];rfl);obtain⟨o1,k1⟩:=own_ct (gc:=gc) ho (q:=i*5+1) om (.int .i64 v);rw[flatN_setI hs i 1 v hi om] at o1;refine⟨h.upd (by rw[List.length_set];exact o1) (List.length_set ..) k1 (h.b.far hne _) (h.x.setNew (p:=⟨g,i*5+1,none⟩) (by show wE.heap.size<=g;omega) _) (fun z hz=>?_),k1⟩;rcases List.mem_or_eq_of_mem_set hz with hz|rfl
 ·exact⟨(h.it z hz).1,.inl ⟨z,hz,rfl,rfl,rfl⟩⟩
 ·have hm:hs[i]∈hs:=List.getElem_mem hi;exact⟨putI_wf (h.it _ hm).1 hv,.inl ⟨_,hm,(putI_l _ _ _).2.1,(putI_l _ _ _).2.2,(putI_l _ _ _).1⟩⟩
end
def RetSpl (w:World)(e:Ending)(w':World):Prop:=∃x y:Int,e=.returned (.agg #[.int .i64 2,.int .i64 x,.int .i64 y,.int .i64 0,.slice none 0 0])/\I64 x/\I64 y/\Ext w w'
theorem hsplit_any (w:World)(p q m:Int)(hp:I64 p)(hq:I64 q):Calls Tryz.prog 180 #[.int .i64 p,.int .i64 q,.int .i64 m] w (RetSpl w):=by
 have E0:=Ext.alloc w (.cells #[.int .i64 0,.int .i64 0,.int .i64 0,.int .i64 0,.slice none 0 0] 126);have B0:=Blk.new w 126 #[.int .i64 0,.int .i64 0,.int .i64 0,.int .i64 0,.slice none 0 0];go_enter Tryz.func180,Tryz.ntmps180
 go_upto_region 1 with fail
 obtain⟨g,hg⟩:∃g,g=w.heap.size:=⟨_,rfl⟩
 rw[<-hg] at B0 ⊢;have hgl:w.heap.size<=g:=om;clear hg;generalize w.alloc (.cells #[.int .i64 0,.int .i64 0,.int .i64 0,.int .i64 0,.slice none 0 0] 126)=w1 at *;have fin:∀x y:Int,Hid (Blk (setQ5 w1 g 0 2 x y 0) g 126 #[.int .i64 2,.int .i64 x,.int .i64 y,.int .i64 0,.slice none 0 0]/\Ext w (setQ5 w1 g 0 2 x y 0)):=fun x y=>lh ⟨by
  have:=((((B0.set 0 (.int .i64 2)).set 1 (.int .i64 x)).set 2 (.int .i64 y)).set 3 (.int .i64 0)).set 4 (.slice none 0 0)
  simpa[setQ5] using this,
  (((((E0.setNew (p:=⟨g,0,none⟩) hgl _).setNew (p:=⟨g,1,none⟩) hgl _).setNew (p:=⟨g,2,none⟩) hgl _).setNew (p:=⟨g,3,none⟩) hgl _).setNew (p:=⟨g,4,none⟩) hgl _)⟩
 obtain⟨z0,z1,z2,z3,z4⟩:w1.cell? ⟨g,0,none⟩=some (.int .i64 0)/\w1.cell? ⟨g,1,none⟩=some (.int .i64 0)/\w1.cell? ⟨g,2,none⟩=some (.int .i64 0)/\w1.cell? ⟨g,3,none⟩=some (.int .i64 0)/\w1.cell? ⟨g,4,none⟩=some (.slice none 0 0):=⟨B0.cell 0,B0.cell 1,B0.cell 2,B0.cell 3,B0.cell 4⟩;have f0:=B0.frz 0;have f1:=B0.frz 1;have f2:=B0.frz 2;have f3:=B0.frz 3;have f4:=B0.frz 4;clear B0 E0;by_cases hm:m=1
 ·subst hm
  go_wp2_with fail
  change bodyPost _ _ _ _ _ (setQ5 w1 g 0 2 q p 0);have F:=fin q p;generalize setQ5 w1 g 0 2 q p 0=w2 at *;have r0:w2.cell? ⟨g,0,none⟩=_:=F.out.1.cell 0;have r1:w2.cell? ⟨g,1,none⟩=_:=F.out.1.cell 1;have r2:w2.cell? ⟨g,2,none⟩=_:=F.out.1.cell 2;have r3:w2.cell? ⟨g,3,none⟩=_:=F.out.1.cell 3;have r4:w2.cell? ⟨g,4,none⟩=_:=F.out.1.cell 4;exact bodyPost_ret (v:=.agg #[.int .i64 2,.int .i64 q,.int .i64 p,.int .i64 0,.slice none 0 0]) (by simp[results,Tryz.results180,go_sem,r0,r1,r2,r3,r4]) rfl ⟨q,p,rfl,hq,hp,F.out.2⟩
 ·have hb:(m == 1)=false:=by simp[hm]
  go_wp2_with fail
  change bodyPost _ _ _ _ _ (setQ5 w1 g 0 2 p q 0);have F:=fin p q;generalize setQ5 w1 g 0 2 p q 0=w2 at *;have r0:w2.cell? ⟨g,0,none⟩=_:=F.out.1.cell 0;have r1:w2.cell? ⟨g,1,none⟩=_:=F.out.1.cell 1;have r2:w2.cell? ⟨g,2,none⟩=_:=F.out.1.cell 2;have r3:w2.cell? ⟨g,3,none⟩=_:=F.out.1.cell 3;have r4:w2.cell? ⟨g,4,none⟩=_:=F.out.1.cell 4;exact bodyPost_ret (v:=.agg #[.int .i64 2,.int .i64 p,.int .i64 q,.int .i64 0,.slice none 0 0]) (by simp[results,Tryz.results180,go_sem,r0,r1,r2,r3,r4]) rfl ⟨p,q,rfl,hp,hq,F.out.2⟩
def OwnJ (w:World)(base:Nat)(J:Option Addr)(n c:Nat)(js:List Nat):Prop:=js.length=n/\OwnS w base 3 1 J n c (js.map (fun(j:Nat)=>Value.int .i64 (j:Int)))
theorem OwnJ.nil (w:World)(base:Nat):OwnJ w base none 0 0 []:=⟨rfl,OwnS.nil _ _ _ _⟩
theorem OwnJ.ext {w w':World}{base n c:Nat}{J:Option Addr}{js:List Nat}(h:OwnJ w base J n c js)(x:Ext w w'):OwnJ w' base J n c js:=⟨h.1,OwnS.ext h.2 x⟩
theorem OwnJ.ct {w w':World}{base n c gc:Nat}{J A A':Option Addr}{js:List Nat}{cs:Array Value}(h:OwnJ w base J n c js)(hb:Blk w gc 46 cs)(k:CT gc A w A' w'):OwnJ w' base J n c js:=
 ⟨h.1,OwnS.keepN h.2 k.kn de (fun b e hbe=>own_blk h.2 hb de (by rw[e,hbe]))⟩
theorem OwnJ.get {w:World}{base n c:Nat}{J:Option Addr}{js:List Nat}(h:OwnJ w base J n c js){i:Nat}(hi:i<n):∃g o j,J=some ⟨g,o,none⟩/\w.cell? ⟨g,o+i,none⟩=some (.int .i64 (j:Nat))/\j∈js/\js[i]? = some j:=by
 have hl:i<js.length:=by have:=h.1;omega
 obtain⟨b,o,rfl,hc⟩:=OwnS.cells h.2 (by intro e;have:=congrArg List.length e;simp at this;subst this;simp at hl);have:=hc i (by simpa using hl);exact⟨b,o,js[i],rfl,by simpa using this,List.getElem_mem hl,by simp[hl]⟩
theorem OwnJ.caps {w:World}{base n c:Nat}{J:Option Addr}{js:List Nat}(h:OwnJ w base J n c js):n<=c/\c<=9223372036854775807:=OwnS.caps h.2
theorem wpList_appJ {P:Program}{w1 w:World}{ops:Array Oper}{rest:List Oper}{o:Oper}{a:Act}{Q:Exit->Act->World->Prop}(hgd:o.guard=none)(s x:Operand)(t:Nat)
 (ho:o.op=.call { callee:=.builtin .append,args:=#[s,x],argTypes:=#[t,t] })
 (hinf:(P.info? 3).map (fun i=>(i.zero,i.size,i.bytes))=some (some (.int .i64 0),1,8)) (ht:P.underlying t=some (.slice 3))
 (base:Nat) (hbw:base<=w1.heap.size) (v:Int) (j:Nat) (hv:v=(j:Int)) (hw:w=w1.alloc (.cells #[.int .i64 v] 3))
 (J:Option Addr) (n c:Nat) (js:List Nat) (hs:a.eval s=.slice J n c) (hown:OwnJ w1 base J n c js)
 (hx:a.eval x=.slice (some ⟨w1.heap.size,0,none⟩) 1 1) (hb:n<=1099511627776)
 (h:∀A' c' w',OwnJ w' base A' (n+1) c' (js++[j])->w1.grownBy w' (J.map (·.block))->wpList P ops Q rest (a.put o.dst (.slice A' (n+1) c')) w'):wpList P ops Q (o::rest) a w:=by
 obtain⟨i0,hi0,hz0,hz1,hz2⟩:=info_parts hinf;subst hw hv;have e1:=Ext.alloc w1 (.cells #[.int .i64 (j:Int)] 3);have hc:CellsAt (w1.alloc (.cells #[.int .i64 (j:Int)] 3)) (some ⟨w1.heap.size,0,none⟩) [.int .i64 (j:Int)]:=fun _=>⟨_,0,rfl,fun i hi=>by
  have:i=0:=by simpa using hi
  subst this;simp⟩
 refine wpList_app _ hgd s x t ho base 3 i0 (.int .i64 0) 1 8 ht hi0 hz0 hz1 hz2 rfl om J n c _ hs (OwnS.ext hown.2 e1) _ 1 1 [.int .i64 (j:Int)] hx rfl hc
  (by simp[Value.oneCell']) um om (by simp;omega) ?_
 intro A' c' w' ho' hg hat;have hg':w1.grownBy w' (J.map (·.block)):=⟨hg.os,hg.tape,hg.output,Nat.le_trans e1.size hg.size,fun k hk hne=>(hg.block k (Nat.lt_of_lt_of_le hk e1.size) hne).trans (e1.block k hk)⟩;exact h A' c' w' ⟨by have:=hown.1;simp;omega,by simpa using ho'⟩ hg'
section
variable {wE w w1 w2:World} {base gc gq gw ga gr c n d B0:Nat} {A A1 J:Option Addr} {hs:List Hin} {js:List Nat}
theorem CT.grow (h:CT gc A w A1 w1)(hj:OwnJ w1 w.heap.size J n d js)(hg:w1.grownBy w2 (J.map (·.block))):CT gc A w A1 w2:=by
 have hJ:=OwnS.row hj.2;have kg:=KpP.of_grown hg;refine⟨⟨kg.os.trans h.kp.os,kg.tape.trans h.kp.tape,kg.output.trans h.kp.output,Nat.le_trans h.kp.size kg.size,fun i hi hn=>?_⟩,h.nw,fun b T cs hb hT hne=>?_⟩
 ·rw[kg.block i (Nat.lt_of_lt_of_le hi h.kp.size) (fun e=>by have:=hJ i e;omega)];exact h.kp.block i hi hn
 ·exact kg.blk (h.kn b T cs hb hT hne) (fun e=>by have:=hJ b e;have:=hb.lt;omega)
theorem CS.grow (h:CS wE base gc gq gw ga gr w1 A c hs)(hj:OwnJ w1 B0 J n d js)(hB:wE.heap.size<=B0)(hg:w1.grownBy w2 (J.map (·.block))):CS wE base gc gq gw ga gr w2 A c hs:=by
 have kg:=KpP.of_grown hg;have hJ:∀b,J.map (·.block)=some b->wE.heap.size<=b:=fun b e=>Nat.le_trans hB (OwnS.row hj.2 b e);have kb:∀{b T:Nat} {cs:Array Value},Blk w1 b T cs->3≠T->Blk w2 b T cs:=fun hb hT=>kg.blk hb (own_blk hj.2 hb hT);have ko:∀{b1 e s m k:Nat} {B:Option Addr} {xs:List Value},OwnS w1 b1 e s B m k xs->3≠e->OwnS w2 b1 e s B m k xs:=fun ho he=>OwnS.kp ho kg (fun b h1 h2=>by
  obtain⟨_,cur,e1⟩:=OwnS.blt ho h1;exact own_blk hj.2 (show Blk w1 b _ cur from e1) he h2)
 exact⟨kb h.b de,ko h.o de,fun z hz=>⟨(h.it z hz).1,ko (h.it z hz).2.1 de,(h.it z hz).2.2⟩,⟨⟨kb h.bx.wb.q de,kb h.bx.wb.w de⟩,kb h.bx.r de,kb h.bx.a de⟩,h.x.grown hg hJ⟩
theorem CS.nin (h:CS wE base gc gq gw ga gr w A c hs){b T:Nat}{cs:Array Value}(hb:Blk w b T cs)(h1:T≠46)(h2:T≠126):b∉gc::bl A:=fun e=>by
 rcases List.mem_cons.1 e with e|e
 ·exact Blk.neT hb h.b h1 e
 ·exact own_blk h.o hb (fun e=>h2 e.symm) (bl.mem e)
end
def RetW (wE:World)(base gc gq gw ga gr:Nat)(w:World)(A:Option Addr)(hs:List Hin)(B:Nat)(e:Ending)(w':World):Prop:=
 ∃(hs':List Hin) (A':Option Addr) (c':Nat),e=.returned (.tuple #[])/\CS wE base gc gq gw ga gr w' A' c' hs'/\CT gc A w A' w'/\hs.length<=hs'.length/\hs'.length+2<=hs.length+B
def WrOk (bd:Nat)(wE:World)(base gc gq gw ga gr d B:Nat):Prop:=∀(b o:Nat),PnAt bd wE b o d->∀(w:World) (A:Option Addr) (c:Nat) (hs:List Hin),CS wE base gc gq gw ga gr w A c hs->hs.length+B<=100000->
 Calls Tryz.prog 182 #[.pointer (some ⟨b,o,none⟩),.pointer (some ⟨gq,0,none⟩),.pointer (some ⟨gw,0,none⟩),.pointer (some ⟨ga,0,none⟩),.pointer (some ⟨gr,0,none⟩)] w (RetW wE base gc gq gw ga gr w A hs B)
def KidsAt (bd:Nat)(wE:World)(K:Option Addr)(k d:Nat):Prop:=∀i,i<k->∃kb ko,K=some ⟨kb,ko,none⟩/\PnAt bd wE kb (ko+i*8) d
def hin0 (op:Int):Hin:=⟨op,0,0,0,none,0,[]⟩
theorem hin0_wf {op:Int}(h:I64 op):(hin0 op).wf:=⟨h,by unfold I64 hin0;simp,by unfold I64 hin0;simp,by unfold I64 hin0;simp⟩
theorem halt_any (bd:Nat)(wE:World)(base gc gq gw ga gr d B:Nat)(hE:wE.heap.size<=base)(hbg:base<=gc)(IH:WrOk bd wE base gc gq gw ga gr d B)(hB:2<=B)
 (K:Option Addr) (kc m:Nat) (hk:KidsAt bd wE K (m+1) d) (hm:1<=m/\m<=2) (hkc:m+1<=kc/\kc<=9223372036854775807)
 (w:World) (A:Option Addr) (c:Nat) (hs:List Hin) (hc:CS wE base gc gq gw ga gr w A c hs) (hl:hs.length+B*3<=100000) :
 Calls Tryz.prog 181 #[.slice K (m+1) kc,.pointer (some ⟨gq,0,none⟩),.pointer (some ⟨gw,0,none⟩),.pointer (some ⟨gc,0,none⟩)] w (RetW wE base gc gq gw ga gr w A hs (B*3)):=by
 obtain⟨kb,ko,rfl,_⟩:=hk 0 om;have HK:=lh hk;have HC:=lh hc;have hwl:=hc.b.lt;have hmI:(1:Int)<=m/\(m:Int)<=2:=om;have hBm:=mul_le2 (B:=B) (show m<=2 from hm.2);clear hk hc;go_enter Tryz.func181,Tryz.ntmps181
 go_upto_region 2 with fail
 have HC1:=HC;have HT0:=lh (CT.refl gc A w);have HL0:Hid (hs.length<=hs.length/\hs.length<=hs.length+B*0):=lh om
 go_loopw [5,16] (fun v5 v16 wr=>∃(i:Nat) (J:Option Addr) (jc:Nat) (js:List Nat) (A1:Option Addr) (c1:Nat) (hs1:List Hin),v5=.slice J i jc/\v16=.int .i64 i/\i<=m/\Hid (CS wE base gc gq gw ga gr wr A1 c1 hs1)/\Hid (CT gc A w A1 wr)/\Hid (OwnJ wr w.heap.size J i jc js)/\Hid (∀x∈js,x<hs1.length)/\Hid (hs.length<=hs1.length/\hs1.length<=hs.length+B*i)) (fun _ v _=>m-(intOf v).toNat)
 case atStart=>exact⟨0,none,0,[],A,c,hs,rfl,rfl,om,HC,HT0,lh (OwnJ.nil _ _),lh si,HL0⟩
 case round=>
  clear HC HC1 HT0 HL0;obtain⟨i,J,jc,js,A1,c1,hs1,rfl,rfl,hi,HC,HT,HJ,HX,HL⟩:=hrel;by_cases hlt:i<m
  ·have hltI:(i:Int)<m:=om;have q0:wr.cell? ⟨gq,0,none⟩=some (.func (Fn.func 178) #[] #[.pointer (some ⟨gc,0,none⟩)]):=HC.out.bx.wb.q.cell 0;have HP:=lh (hput_cs wE wr base gc gq gw ga gr hE hbg A1 c1 hs1 HC.out (by have:=HL.out;have:=mul_le2 (B:=B) (show i<=2 by omega);omega) (by have:=HC.out.b.lt;omega) (hin0 0) (hin0_wf (by unfold I64;omega)) (OwnP.nil _ _) (by simp[hin0]) (SetE.nil _));unfold hin0 at HP
   go_upto_region 4 with fail
   go_upto_region 5 with(go_at_call 178;refine HP.out.mono ?_;rintro e w2 ⟨A2,c2,rfl,hc2,ht2⟩)
   have HC2:=lh hc2;have HT2:=lh (HT.out.trans ht2);have HJ2:=lh (HJ.out.ct HC.out.b ht2);clear HC HT HJ HP q0 hc2 ht2;obtain⟨hs2,hs2e⟩:∃l,l=hs1++[⟨0,0,0,0,none,0,[]⟩]:=⟨_,rfl⟩
   rw[<-hs2e] at HC2;have hl2:hs2.length=hs1.length+1:=by rw[hs2e];simp
   have HL2:=lh hl2;clear hs2e hl2;have c5:w2.cell? ⟨gw,0,none⟩=some (.func (Fn.func 182) #[] #[.pointer (some ⟨gq,0,none⟩),.pointer (some ⟨gw,0,none⟩),.pointer (some ⟨ga,0,none⟩),.pointer (some ⟨gr,0,none⟩)]):=HC2.out.bx.wb.w.cell 0;have d0:=fun(w':World) (h:Kp (gc::bl A2) w2 w')=>h.cell c5 (HC2.out.nin HC2.out.bx.wb.w de de);have hiI:(i:Int)<(m:Int)+1:=om;clear c5;refine Xr.start (gc::bl A2) kr ?_;refine Xtk 0 ?_
   iterate 3(refine Xtn ?_)
   clear d0;refine Xsp 4 fun w3 hE3 hK3 Kk hKK=>?_;go_simp;have HI:=lh (HK.out i om);obtain⟨kb',ko',ek,hpk⟩:=HI.out;injection ek with ek;injection ek with ek1 ek2
   subst ek1 ek2;refine(IH _ _ hpk w3 A2 c2 hs2 (HC2.out.ext hE3) (by have:=HL.out;have:=HL2.out;have:=mul_step B i;have:=mul_le2 (B:=B) (show i+1<=2 by omega);omega)).mono ?_;rintro e w4 ⟨hs4,A4,c4,rfl,hc4,ht4,hlo4,hhi4⟩;refine hKK _ _ (WI_kp ht4.kp CQ.mem) (hK3.kpP ht4.kp CQ.mem) ?_;clear hKK;refine ptm ?_;refine Xdn fun w5 hE5 hK5=>?_;have T5:=lh (((CT.of_ext gc A2 hE3).trans ht4).trans (CT.of_ext gc A4 hE5));have HC5:=lh (hc4.ext hE5);have HT5:=lh (HT2.out.trans T5.out);have HJ5:=lh (HJ2.out.ct HC2.out.b T5.out);have HL5:=lh (And.intro hlo4 hhi4);clear hE3 hK3 hE5 hK5 hc4 ht4 hlo4 hhi4 HC2 HT2 HJ2 T5 hpk;have hs1b:hs1.length+1<=100000:=by have:=HL.out;have:=mul_le2 (B:=B) (show i<=2 by omega);omega
   have hs4b:hs4.length<=100000:=by have:=HL.out;have:=HL2.out;have:=HL5.out;have:=mul_step B i;have:=mul_le2 (B:=B) (show i+1<=2 by omega);omega
   have hwl5:w.heap.size<=w5.heap.size:=HT5.out.kp.size;have q0:w5.cell? ⟨gq,0,none⟩=some (.func (Fn.func 178) #[] #[.pointer (some ⟨gc,0,none⟩)]):=HC5.out.bx.wb.q.cell 0;have HP:=lh (hput_cs wE w5 base gc gq gw ga gr hE hbg A4 c4 hs4 HC5.out hs4b (by have:=HC5.out.b.lt;omega) (hin0 3) (hin0_wf (by unfold I64;omega)) (OwnP.nil _ _) (by simp[hin0]) (SetE.nil _));unfold hin0 at HP;have hAL:Hid (hs4.length<hs4.length+1):=lh om
   go_upto_region 7 with(first|(go_at_call 178;refine HP.out.mono ?_;rintro e w6 ⟨A6,c6,rfl,hc6,ht6⟩;have HJ6:=HJ5.out.ct HC5.out.b ht6)|(at_builtin;refine wpList_appJ (w1:=w6) rfl _ _ _ rfl infoInt Tryz.underlying22 w.heap.size (by have:=ht6.kp.size;omega) _ hs4.length rfl rfl J i jc js rfl HJ6 rfl om ?_;intro J7 jc7 w7 hj7 hg7))
   have HC7:=lh (hc6.grow HJ6 (Nat.le_trans hE (Nat.le_trans hbg (Nat.le_of_lt hwl))) hg7);have HT7:=lh ((HT5.out.trans ht6).grow HJ6 hg7);have HJ7:=lh hj7;clear HC5 HT5 HJ5 HP q0 hc6 ht6 hj7 hg7 HJ6;obtain⟨hs6,hs6e⟩:∃l,l=hs4++[⟨3,0,0,0,none,0,[]⟩]:=⟨_,rfl⟩
   rw[<-hs6e] at HC7;have hl6:hs6.length=hs4.length+1:=by rw[hs6e];simp
   have HL6:=lh hl6;clear hs6e;have hi1:hs1.length<hs6.length:=by have:=HL2.out;have:=HL5.out;omega
   have hi1I:(hs1.length:Int)<(hs6.length:Int):=om;obtain⟨g,eA,hbase,hcell⟩:=own_c5 HC7.out.o hi1;subst eA;obtain⟨v0,y0,f0⟩:=hcell 0 om;obtain⟨v1,y1,f1⟩:=hcell 1 om;obtain⟨v2,y2,f2⟩:=hcell 2 om;obtain⟨v3,y3,f3⟩:=hcell 3 om;obtain⟨v4,y4,f4⟩:=hcell 4 om;simp only[Nat.add_zero] at y0 f0;have HPUT:=lh (HC7.out.put5 hE hi1 rfl (op:=2) (x:=(hs1.length:Int)+1) (y:=(hs6.length:Int)) (n:=0) (by unfold I64;omega));have z0:w7.cell? ⟨gc,0,none⟩=some (.slice (some ⟨g,0,none⟩) hs6.length c6):=HC7.out.b.cell 0;have hcap:=OwnS.caps HC7.out.o;clear hcell hl6
   go_upto_region 8 with fail
   change Code.wp _ _ _ _ (setQ5 w7 g (hs1.length*5) 2 ((hs1.length:Int)+1) (hs6.length:Int) 0);have HC8:=lh HPUT.out.1;have HT8:=lh (HT7.out.trans HPUT.out.2);have HJ8:=lh (HJ7.out.ct HC7.out.b HPUT.out.2);have HL8:Hid (hs.length<=(hs6.set hs1.length ⟨2,(hs1.length:Int)+1,(hs6.length:Int),0,none,0,[]⟩).length/\(hs6.set hs1.length ⟨2,(hs1.length:Int)+1,(hs6.length:Int),0,none,0,[]⟩).length<=hs.length+B*(i+1)):=lh (by
    rw[List.length_set];have:=HL.out;have:=HL2.out;have:=HL5.out;have:=HL6.out;have:=mul_step B i;omega)
   have HX8:Hid (∀x∈js++[hs4.length],x<(hs6.set hs1.length ⟨2,(hs1.length:Int)+1,(hs6.length:Int),0,none,0,[]⟩).length):=lh (fun x hx=>by
    rw[List.length_set];have:=HL2.out;have:=HL5.out;have:=HL6.out;rcases List.mem_append.1 hx with hx|hx
    ·have:=HX.out x hx;omega
    ·rw[List.mem_singleton.1 hx];omega)
   generalize hs6.set hs1.length ⟨2,(hs1.length:Int)+1,(hs6.length:Int),0,none,0,[]⟩=hs8 at *;generalize setQ5 w7 g (hs1.length*5) 2 ((hs1.length:Int)+1) (hs6.length:Int) 0=w8 at *;clear y0 y1 y2 y3 y4 f0 f1 f2 f3 f4 z0 HPUT HC7 HT7 HJ7
   go_wp2_with fail
   go_roundw
   case rel=>exact⟨i+1,J7,jc7,js++[hs4.length],some ⟨g,0,none⟩,c6,hs8,rfl,by go_num,om,HC8,HT8,HJ8,HX8,HL8⟩
   case measure=>simp[intOf];omega
  ·have him:i=m:=om;subst him;have hltI:¬(i:Int)<(i:Int):=om;have c5:wr.cell? ⟨gw,0,none⟩=some (.func (Fn.func 182) #[] #[.pointer (some ⟨gq,0,none⟩),.pointer (some ⟨gw,0,none⟩),.pointer (some ⟨ga,0,none⟩),.pointer (some ⟨gr,0,none⟩)]):=HC.out.bx.wb.w.cell 0;have d0:=fun(w':World) (h:Kp (gc::bl A1) wr w')=>h.cell c5 (HC.out.nin HC.out.bx.wb.w de de);have hiI:(i:Int)<(i:Int)+1:=om;have hwi:IntKind.i64.wrap (i:Int)=i:=wj;clear c5
   go_upto_region 9 with fail
   refine Xr.start (gc::bl A1) kr ?_;refine Xtk 0 ?_
   iterate 5(refine Xtn ?_)
   clear d0 hwi;refine Xsp 6 fun w3 hE3 hK3 Kk hKK=>?_;go_simp;have HI:=lh (HK.out i om);obtain⟨kb',ko',ek,hpk⟩:=HI.out;injection ek with ek;injection ek with ek1 ek2
   subst ek1 ek2;refine(IH _ _ hpk w3 A1 c1 hs1 (HC.out.ext hE3) (by have:=HL.out;omega)).mono ?_;rintro e w4 ⟨hs4,A4,c4,rfl,hc4,ht4,hlo4,hhi4⟩;refine hKK _ _ (WI_kp ht4.kp CQ.mem) (hK3.kpP ht4.kp CQ.mem) ?_;clear hKK;refine ptm ?_;refine Xdn fun w5 hE5 hK5=>?_;have T5:=lh (((CT.of_ext gc A1 hE3).trans ht4).trans (CT.of_ext gc A4 hE5));have HC5:=lh (hc4.ext hE5);have HT5:=lh (HT.out.trans T5.out);have HJ5:=lh (HJ.out.ct HC.out.b T5.out);have HX5:Hid (∀x∈js,x<hs4.length):=lh (fun x hx=>by have:=HX.out x hx;omega);have HL5:Hid (hs.length<=hs4.length/\hs4.length+2<=hs.length+B*3):=lh (by have:=HL.out;omega);have hjc:=HJ.out.caps;clear hE3 hK3 hE5 hK5 hc4 ht4 hlo4 hhi4 HC HT HJ HX HL T5 hpk hltI hiI
   go_upto_region 11 with fail
   go_loopw [51] (fun v51 wr=>∃(k:Nat) (A1:Option Addr) (c1:Nat) (hs1:List Hin),v51=.int .i64 k/\k<=i/\Hid (CS wE base gc gq gw ga gr wr A1 c1 hs1)/\Hid (CT gc A w A1 wr)/\Hid (OwnJ wr w.heap.size J i jc js)/\Hid (hs1.length=hs4.length)) (fun v _=>i-(intOf v).toNat)
   case atStart=>exact⟨0,A4,c4,hs4,rfl,om,HC5,HT5,HJ5,lh rfl⟩
   case round=>
    clear HC5 HT5 HJ5;obtain⟨k,A1,c1,hs1,rfl,hk,HC,HT,HJ,HL1⟩:=hrel;by_cases hlt:k<i
    ·have hltI:(k:Int)<(i:Int):=om;obtain⟨jg,jo,j,rfl,cj,hj,_⟩:=HJ.out.get hlt;have hj1:j<hs1.length:=by have:=HX5.out j hj;have:=HL1.out;omega
     have hj1I:(j:Int)<(hs1.length:Int):=om;obtain⟨g,eA,hbase,hcell⟩:=own_c5 HC.out.o hj1;subst eA;obtain⟨v1,y1,f1⟩:=hcell 1 om;have hb1:hs1.length<=100000:=by have:=HL5.out;have:=HL1.out;omega
     have HPUT:=lh (HC.out.putX hE hj1 rfl (v:=(hs1.length:Int)) (by unfold I64;omega));have z0:wr.cell? ⟨gc,0,none⟩=some (.slice (some ⟨g,0,none⟩) hs1.length c1):=HC.out.b.cell 0;have hcap:=OwnS.caps HC.out.o;clear hcell hj
     go_upto_region 14 with fail
     have HC8:=lh HPUT.out.1;have HT8:=lh (HT.out.trans HPUT.out.2);have HJ8:=lh (HJ.out.ct HC.out.b HPUT.out.2);have HL8:Hid ((hs1.set j (hs1[j].putI 1 (hs1.length:Int))).length=hs4.length):=lh (by rw[List.length_set];exact HL1.out);generalize hs1.set j (hs1[j].putI 1 (hs1.length:Int))=hs8 at *;generalize wr.setCell ⟨g,j*5+1,none⟩ (.int .i64 (hs1.length:Int))=w8 at *;clear y1 f1 z0 HPUT HC HT HJ cj
     go_wp2_with fail
     go_roundw
     case rel=>exact⟨k+1,some ⟨g,0,none⟩,c1,hs8,by go_num,om,HC8,HT8,HJ8,HL8⟩
     case measure=>simp[intOf];omega
    ·have hle:¬(k:Int)<(i:Int):=om
     go_wp2_with fail
     exact bodyPost_end (v:=.tuple #[]) (by simp[results,Tryz.results181,go_sem]) rfl ⟨hs1,A1,c1,rfl,HC.out,HT.out,by have:=HL1.out;have:=HL5.out;omega,by have:=HL1.out;have:=HL5.out;omega⟩
theorem frmEnd {P:Prop}(h:P:=by
 go_wp2_with (first|(go_at_call 206;refine(HSP w2 HX2.out).out.mono ?_;rintro e w3 ⟨bs,rfl,x3⟩;have HX3:=lh (HX2.out.trans x3);have B3:=B2.ext x3;obtain⟨y1,y2,y3,y4,y5,y6,y7⟩:w3.cell? ⟨g,1,none⟩=some (.slice A nl c)/\w3.cell? ⟨g,2,none⟩=some (.slice none 0 0)/\w3.cell? ⟨g,3,none⟩=some (.int .i64 mn)/\w3.cell? ⟨g,4,none⟩=some (.int .i64 mx)/\w3.cell? ⟨g,5,none⟩=some (.int .i64 md)/\w3.cell? ⟨g,6,none⟩=some (.int .i64 nn)/\w3.cell? ⟨g,7,none⟩=some (.bool neg):=⟨B3.cell 1,B3.cell 2,B3.cell 3,B3.cell 4,B3.cell 5,B3.cell 6,B3.cell 7⟩;have f31:=B3.frz 1;clear x3)|(go_at_call 207;refine(HBD w2 HX2.out).out.mono ?_;rintro e w3 ⟨bs,rfl,x3⟩;have HX3:=lh (HX2.out.trans x3);have B3:=B2.ext x3;obtain⟨y1,y2,y3,y4,y5,y6,y7⟩:w3.cell? ⟨g,1,none⟩=some (.slice A nl c)/\w3.cell? ⟨g,2,none⟩=some (.slice none 0 0)/\w3.cell? ⟨g,3,none⟩=some (.int .i64 mn)/\w3.cell? ⟨g,4,none⟩=some (.int .i64 mx)/\w3.cell? ⟨g,5,none⟩=some (.int .i64 md)/\w3.cell? ⟨g,6,none⟩=some (.int .i64 nn)/\w3.cell? ⟨g,7,none⟩=some (.bool neg):=⟨B3.cell 1,B3.cell 2,B3.cell 3,B3.cell 4,B3.cell 5,B3.cell 6,B3.cell 7⟩;have f33:=B3.frz 3;have f34:=B3.frz 4;have f35:=B3.frz 5;clear x3))
 all_goals
  go_ret
  refine⟨_,rfl,?_⟩
  repeat(first|exact HX2.out|exact HX3.out|refine Ext.setNew ?_ HG.out _)):P:=h
theorem hformed_any (bd:Nat)(w:World)(b o d:Nat)(n:Nd)(hp:PnN bd w b o d n)(caps top:Int)(ht:255<=top/\top<=1114111):Calls Tryz.prog 175 #[.pointer (some ⟨b,o,none⟩),.int .i64 caps,.int .i64 top] w (RetBo w):=by
 obtain⟨c0,c1,c2,c3,c4,c5,c6,c7⟩:=hp.p.c8;have HSP:=fun(w':World) (x':Ext w w')=>lh (hspans_any w' n.A n.c n.l top (hp.sl.ext x') hp.ok.set ht);have HBD:=fun(w':World) (x':Ext w w')=>lh (hbounded_any w' b o n (hp.p.ext x') hp.ok.mn.1 hp.ok.mx.1 hp.ok.md);have hcap:n.ks.length<=n.kc/\n.kc<=9223372036854775807:=⟨hp.le,by have:=hp.cap;unfold maxLen at this;omega⟩;have hll:=hp.sl.len;have hop:=hp.ok.op;clear hp;generalize n.op=op at *;generalize n.A=A at *;generalize n.c=c at *;generalize n.l.length=nl at *;generalize n.K=K at *;generalize n.ks.length=nk at *;generalize n.kc=kc at *;generalize n.mn=mn at *;generalize n.mx=mx at *;generalize n.md=md at *;generalize n.n=nn at *;generalize n.neg=neg at *;go_enter Tryz.func175,Tryz.ntmps175;have XN:=Ext.alloc w (.cells #[.int .i64 op,.slice A nl c,.slice K nk kc,.int .i64 mn,.int .i64 mx,.int .i64 md,.int .i64 nn,.bool neg] 26);have BN:=Blk.new w 26 #[.int .i64 op,.slice A nl c,.slice K nk kc,.int .i64 mn,.int .i64 mx,.int .i64 md,.int .i64 nn,.bool neg];obtain⟨g,hg⟩:∃g,g=w.heap.size:=⟨_,rfl⟩;have HGE:=lh hg;have HG:Hid (w.heap.size<=g):=lh om
 rw[<-hg] at BN;clear hg;have HXN:=lh XN;have HBN:=lh BN;clear XN BN
 go_upto_region 4 with fail
 all_goals
  rw[<-HGE.out];have XN:=HXN.out;have BN:=HBN.out;generalize w.alloc (.cells #[.int .i64 op,.slice A nl c,.slice K nk kc,.int .i64 mn,.int .i64 mx,.int .i64 md,.int .i64 nn,.bool neg] 26)=w1 at *;have f2:=BN.frz 2;have z2:w1.cell? ⟨g,2,none⟩=some (.slice K nk kc):=BN.cell 2;have HX2:=lh (XN.setNew (p:=⟨g,2,none⟩) HG.out (.slice none 0 0));have B2:Blk (w1.setCell ⟨g,2,none⟩ (.slice none 0 0)) g 26 #[.int .i64 op,.slice A nl c,.slice none 0 0,.int .i64 mn,.int .i64 mx,.int .i64 md,.int .i64 nn,.bool neg]:=Blk.set BN 2 (.slice none 0 0)
  go_upto_region 5 with fail
  generalize w1.setCell ⟨g,2,none⟩ (.slice none 0 0)=w2 at *;replace c0:=HX2.out.cell c0;replace c1:=HX2.out.cell c1;replace c6:=HX2.out.cell c6;obtain⟨z0,z1,z2',z3,z4,z5,z6,z7⟩:w2.cell? ⟨g,0,none⟩=some (.int .i64 op)/\w2.cell? ⟨g,1,none⟩=some (.slice A nl c)/\w2.cell? ⟨g,2,none⟩=some (.slice none 0 0)/\w2.cell? ⟨g,3,none⟩=some (.int .i64 mn)/\w2.cell? ⟨g,4,none⟩=some (.int .i64 mx)/\w2.cell? ⟨g,5,none⟩=some (.int .i64 md)/\w2.cell? ⟨g,6,none⟩=some (.int .i64 nn)/\w2.cell? ⟨g,7,none⟩=some (.bool neg):=⟨B2.cell 0,B2.cell 1,B2.cell 2,B2.cell 3,B2.cell 4,B2.cell 5,B2.cell 6,B2.cell 7⟩;have f1:=B2.frz 1;have f3:=B2.frz 3;have f4:=B2.frz 4;have f5:=B2.frz 5;have f6:=B2.frz 6;clear f2 z2 XN BN c2 c3 c4 c5 c7;have HOP:=lh hop;clear hop;rcases HOP.out with rfl|rfl|rfl|rfl|rfl|rfl|rfl
  ·exact frmEnd
  ·exact frmEnd
  ·exact frmEnd
  ·exact frmEnd
  ·exact frmEnd
  ·exact frmEnd
  ·exact frmEnd
theorem slIndex_any (w:World)(A:Option Addr)(c:Nat)(xs:List Int)(x:Int)(h:IL w A c xs):Calls Tryz.prog 209 #[.slice A xs.length c,.int .i64 x] w (fun e w'=>∃k:Int,e=.returned (.int .i64 k)/\Ext w w'):=by
 have hl:=h.len;have H:=lh h;clear h;go_enter Tryz.func209,Tryz.ntmps209
 go_upto_region 2 with fail
 go_loopw [8] (fun v wr=>∃i:Nat,v=.int .i64 i/\i<=xs.length/\Ext w wr) (fun v _=>xs.length-(intOf v).toNat)
 case atStart=>exact⟨0,rfl,Nat.zero_le _,Ext.rfl' _⟩
 case round=>
  obtain⟨i,rfl,hi,x1⟩:=hrel;by_cases hlt:i<xs.length
  ·obtain⟨b,o,rfl,hc⟩:=(H.out.ext x1).get hlt;generalize xs[i]=y at *;by_cases hxy:x=y
   ·go_wp2_with fail
    go_ret
    exact⟨_,rfl,x1⟩
   ·go_wp2_with fail
    go_roundw
    case rel=>exact⟨i+1,by go_num,om,x1⟩
    case measure=>simp[intOf];omega
  ·have hle:(xs.length:Int)<=i:=om
   go_wp2_with fail
   go_ret
   exact⟨_,rfl,x1⟩
theorem slContains_any (w:World)(A:Option Addr)(c:Nat)(xs:List Int)(x:Int)(h:IL w A c xs):Calls Tryz.prog 177 #[.slice A xs.length c,.int .i64 x] w (RetBo w):=by
 have H:=lh (slIndex_any w A c xs x h);clear h;go_enter Tryz.func177,Tryz.ntmps177
 go_wp2_with (go_at_call 209;refine H.out.mono ?_;rintro e w1 ⟨k,rfl,x1⟩)
 go_ret
 exact⟨_,rfl,x1⟩
def NuB (w:World)(gw:Nat):Prop:=Blk w gw 304 #[.func (Fn.func 208) #[] #[.pointer (some ⟨gw,0,none⟩)]]
theorem nul1 {P:Prop}(h:P:=by
 go_loopw [23] (fun v wr=>∃i:Nat,v=.int .i64 i/\i<=n.ks.length/\Hid (Ext w wr)) (fun v _=>n.ks.length-(intOf v).toNat)
 case atStart=>exact⟨0,rfl,Nat.zero_le _,lh (Ext.rfl' _)⟩
 case round=>
  obtain⟨i,rfl,hi,XR⟩:=hrel;by_cases hlt:i<n.ks.length
  ·have HNr:=lh (HN.out.ext XR.out);obtain⟨kb,ko,eK,HKID⟩:=HNr.out.kid i hlt;have cr:=HNr.out.p.c8.2.2.1;rw[eK] at cr;have w0:wr.cell? ⟨gw,0,none⟩=some (.func (Fn.func 208) #[] #[.pointer (some ⟨gw,0,none⟩)]):=(Blk.ext HV.out XR.out).cell 0;have HK:=lh HKID;have VR:Hid (NuB wr gw):=lh (Blk.ext HV.out XR.out);have d0:=kc0 w0;have d1:=kc0 cr;clear w0 cr HKID eK
   go_upto_region 13 with fail
   refine Xr.start [] kr ?_;refine Xtk 0 ?_
   iterate 6(refine Xtn ?_)
   clear d0 d1;refine Xcl 7 fun w5 hE5 hK5 K hKK=>?_;go_simp;refine(IH w5 (Blk.ext VR.out hE5) kb (ko+i*8) (HK.out.ext hE5)).mono ?_;rintro e w6 ⟨z,rfl,x6⟩;refine hKK _ _ x6 ?_;clear hKK;refine ptm ?_;refine Xtk 8 ?_;refine Xdn fun w7 hE7 hK7=>?_;have X7:=lh (XR.out.trans hK7.nil);clear hE5 hK5 x6 hE7 hK7
   cases z with
   | true=>
    go_wp2_with fail
    go_roundw
    case rel=>exact⟨i+1,by go_num,om,X7⟩
    case measure=>simp[intOf];omega
   | false=>
    go_wp2_with fail
    go_ret
    exact⟨_,rfl,X7.out⟩
  ·have hle:(n.ks.length:Int)<=i:=om
   go_wp2_with fail
   go_ret
   exact⟨_,rfl,XR.out⟩):P:=h
theorem nul2 {P:Prop}(h:P:=by
 go_loopw [53] (fun v wr=>∃i:Nat,v=.int .i64 i/\i<=n.ks.length/\Hid (Ext w wr)) (fun v _=>n.ks.length-(intOf v).toNat)
 case atStart=>exact⟨0,rfl,Nat.zero_le _,lh (Ext.rfl' _)⟩
 case round=>
  obtain⟨i,rfl,hi,XR⟩:=hrel;by_cases hlt:i<n.ks.length
  ·have HNr:=lh (HN.out.ext XR.out);obtain⟨kb,ko,eK,HKID⟩:=HNr.out.kid i hlt;have cr:=HNr.out.p.c8.2.2.1;rw[eK] at cr;have w0:wr.cell? ⟨gw,0,none⟩=some (.func (Fn.func 208) #[] #[.pointer (some ⟨gw,0,none⟩)]):=(Blk.ext HV.out XR.out).cell 0;have HK:=lh HKID;have VR:Hid (NuB wr gw):=lh (Blk.ext HV.out XR.out);have d0:=kc0 w0;have d1:=kc0 cr;clear w0 cr HKID eK
   go_upto_region 27 with fail
   refine Xr.start [] kr ?_;refine Xtk 0 ?_
   iterate 6(refine Xtn ?_)
   clear d0 d1;refine Xcl 7 fun w5 hE5 hK5 K hKK=>?_;go_simp;refine(IH w5 (Blk.ext VR.out hE5) kb (ko+i*8) (HK.out.ext hE5)).mono ?_;rintro e w6 ⟨z,rfl,x6⟩;refine hKK _ _ x6 ?_;clear hKK;refine ptm ?_;refine Xdn fun w7 hE7 hK7=>?_;have X7:=lh (XR.out.trans hK7.nil);clear hE5 hK5 x6 hE7 hK7
   cases z with
   | true=>
    go_wp2_with fail
    go_ret
    exact⟨_,rfl,X7.out⟩
   | false=>
    go_wp2_with fail
    go_roundw
    case rel=>exact⟨i+1,by go_num,om,X7⟩
    case measure=>simp[intOf];omega
  ·have hle:(n.ks.length:Int)<=i:=om
   go_wp2_with fail
   go_ret
   exact⟨_,rfl,XR.out⟩):P:=h
theorem null1_step (bd:Nat)(d:Nat)(gw:Nat)
 (IH:∀(w:World) (_:NuB w gw) (b o:Nat) (_:PnAt bd w b o d),Calls Tryz.prog 208 #[.pointer (some ⟨b,o,none⟩),.pointer (some ⟨gw,0,none⟩)] w (RetBo w))
 (w:World) (hv:NuB w gw) (b o:Nat) (hp:PnAt bd w b o (d+1)):Calls Tryz.prog 208 #[.pointer (some ⟨b,o,none⟩),.pointer (some ⟨gw,0,none⟩)] w (RetBo w):=by
 obtain⟨n,hn⟩:=hp.node;have HN:=lh hn;have HV:=lh hv;have hcap:n.ks.length<=n.kc/\n.kc<=9223372036854775807:=⟨hn.le,by have:=hn.cap;unfold maxLen at this;omega⟩;have hfew:n.ks.length<=3:=hn.ok.few;have hop:=hn.ok.op;obtain⟨c0,_,c2,c3,_⟩:=hn.p.c8;clear hn hp hv;generalize n.op=op at *;go_enter Tryz.func208,Tryz.ntmps208;rcases hop with rfl|rfl|rfl|rfl|rfl|rfl|rfl
 ·go_wp2
  go_ret
  exact⟨_,rfl,Ext.rfl' _⟩
 ·go_wp2
  go_ret
  exact⟨_,rfl,Ext.rfl' _⟩
 ·go_upto_region 11 with fail
  clear c2 c0 c3;exact nul1
 ·go_upto_region 25 with fail
  clear c2 c0 c3;exact nul2
 ·by_cases h0:n.mn=0
  ·go_wp2
   go_ret
   exact⟨_,rfl,Ext.rfl' _⟩
  ·have h0b:(n.mn == 0)=false:=by simpa using h0
   go_upto_region 25 with fail
   clear c2 c0 c3 h0 h0b;exact nul2
 ·go_upto_region 25 with fail
  clear c2 c0 c3;exact nul2
 ·go_wp2
  go_ret
  exact⟨_,rfl,Ext.rfl' _⟩
theorem null1_any (bd:Nat)(gw:Nat):∀(d:Nat) (w:World) (_:NuB w gw) (b o:Nat) (_:PnAt bd w b o d),Calls Tryz.prog 208 #[.pointer (some ⟨b,o,none⟩),.pointer (some ⟨gw,0,none⟩)] w (RetBo w)
 | 0,w,_,b,o,hp=>by obtain⟨e,he⟩:=hp.pos;omega
 | d+1,w,hv,b,o,hp=>null1_step bd d gw (null1_any bd gw d) w hv b o hp
theorem null_any (bd d:Nat)(w:World)(n:Nd)(hp:TreeAt bd (fun _=>True) w d n.val):Calls Tryz.prog 176 #[n.val] w (RetBo w):=by
 have X0:=Ext.alloc w (.cells n.cs.toArray 26);have B0:=Blk.new w 26 n.cs.toArray;have HP:Hid (PnAt bd (w.alloc (.cells n.cs.toArray 26)) w.heap.size 0 d):=lh ⟨n,fun i hi=>by rw[Nat.zero_add,B0.cell i];simpa using List.getElem?_eq_getElem hi,hp.ext X0⟩;have HX0:=lh X0;clear B0 X0;unfold Nd.cs at HP HX0;unfold Nd.val;go_enter Tryz.func176,Tryz.ntmps176
 go_upto_region 1 with fail
 obtain⟨gb,hgb⟩:∃g,g=w.heap.size:=⟨_,rfl⟩
 rw[<-hgb] at HP ⊢;clear hgb;generalize w.alloc (.cells #[.int .i64 n.op,.slice n.A n.l.length n.c,.slice n.K n.ks.length n.kc,.int .i64 n.mn,.int .i64 n.mx,.int .i64 n.md,.int .i64 n.n,.bool n.neg] 26)=w1 at *;have X1:=Ext.alloc w1 (.cells #[.nilFunc] 304);have B1:=Blk.new w1 304 #[.nilFunc];obtain⟨gw,hgw⟩:∃g,g=w1.heap.size:=⟨_,rfl⟩
 rw[<-hgw] at B1;have HGW:=lh hgw;clear hgw
 go_upto_region 2 with fail
 rw[<-HGW.out];generalize w1.alloc (.cells #[.nilFunc] 304)=w2 at *;have hlow:w1.heap.size<=gw:=by have:=HGW.out;omega
 have z0:w2.cell? ⟨gw,0,none⟩=some .nilFunc:=B1.cell 0;have z1:=B1.frz 0;have HV:Hid (NuB (w2.setCell ⟨gw,0,none⟩ (.func (Fn.func 208) #[] #[.pointer (some ⟨gw,0,none⟩)])) gw):=lh (by have h:=Blk.set B1 0 (.func (Fn.func 208) #[] #[.pointer (some ⟨gw,0,none⟩)]);exact h);have X2:=lh (X1.setNew (p:=⟨gw,0,none⟩) hlow (.func (Fn.func 208) #[] #[.pointer (some ⟨gw,0,none⟩)]));have hst:(store ⟨gw,0,none⟩ (.func (Fn.func 208) #[] #[.pointer (some ⟨gw,0,none⟩)])).run Tryz.prog w2=.ok () (w2.setCell ⟨gw,0,none⟩ (.func (Fn.func 208) #[] #[.pointer (some ⟨gw,0,none⟩)])):=by
  rw[run_store Tryz.prog w2 _ _ _ rfl,z0];simp[z1]
 go_upto_region 3 with fail
 generalize w2.setCell ⟨gw,0,none⟩ (.func (Fn.func 208) #[] #[.pointer (some ⟨gw,0,none⟩)])=w3 at *;clear z0 z1 hst B1 X1;have w0:w3.cell? ⟨gw,0,none⟩=some (.func (Fn.func 208) #[] #[.pointer (some ⟨gw,0,none⟩)]):=Blk.cell HV.out 0;have H:=lh (null1_any bd gw d w3 HV.out gb 0 (HP.out.ext X2.out))
 go_wp2_with (go_at_call 208;refine H.out.mono ?_;rintro e w4 ⟨z,rfl,x4⟩)
 go_ret
 exact⟨_,rfl,HX0.out.trans (X2.out.trans x4)⟩
def RetCp (wB w:World)(A:Option Addr)(c:Nat)(xs:List Int)(e:Ending)(w':World):Prop:=
 ∃z:Bool,e=.returned (.bool z)/\Ext wB w'/\KpP (fun b=>A.map (·.block)=some b) w w'/\OwnI w' wB.heap.size 3 A c xs
theorem OwnS.preK {w:World}{base e n c:Nat}{A:Option Addr}{xs:List Value}{v:Value}(h:OwnS w base e 1 A (n+1) c (xs++[v]))(hn:xs.length=n):OwnS w base e 1 A n c xs:=by
 refine⟨om,?_⟩;rcases OwnS.form h with⟨_,h0,_⟩|⟨g,cur,rfl,hb,hh,h1,h2,h3,h4⟩
 ·omega
 ·refine .inr ⟨g,c,cur,rfl,hb,hh,om,h2,h3,?_⟩;rw[Nat.mul_one] at h4 ⊢;have h5:=congrArg (List.take n) h4;rw[List.take_take,Nat.min_eq_left om,List.take_append_of_le_length om] at h5;rw[h5];exact List.take_of_length_le om
theorem grownK {w w':World}{A:Option Addr}(hg:w.grownBy w' (A.map (·.block))):KpP (fun b=>A.map (·.block)=some b) w w':=⟨hg.os,hg.tape,hg.output,hg.size,fun k hk hn=>hg.block k hk (fun e=>hn e.symm)⟩
theorem cmpKeep {w wr w':World}{base c d:Nat}{A B:Option Addr}{xs:List Int}{v:Int}(KR:KpP (fun b=>A.map (·.block)=some b) w wr)(k:KpP (fun b=>B.map (·.block)=some b) wr w')(OA:OwnI wr base 3 A c xs)(OB:OwnI w' base 3 B d (xs++[v]))
 (hBA:(B=A/\d=c)\/∀b,B.map (·.block)=some b->w.heap.size<=b) (hA:∀b,A.map (·.block)=some b->b<w.heap.size):KpP (fun b=>A.map (·.block)=some b) w w'/\OwnI w' base 3 A c xs:=by
 rcases hBA with⟨rfl,rfl⟩|hBA
 ·refine⟨KR.trans k,?_⟩;unfold OwnI at OB ⊢;rw[List.map_append,List.length_append] at OB;exact OwnS.preK OB si
 ·refine⟨⟨k.os.trans KR.os,k.tape.trans KR.tape,k.output.trans KR.output,Nat.le_trans KR.size k.size,fun i hi hn=>?_⟩,?_⟩
  ·rw[k.block i (Nat.lt_of_lt_of_le hi KR.size) (fun hb=>by have:=hBA i hb;omega)];exact KR.block i hi hn
  ·exact OwnS.kp OA k (fun b h1 h2=>by have h3:=hA b h1;have h4:=hBA b h2;omega)
theorem cmpLA {P:Prop}(h:P:=by
 go_loopw [52] (fun v wr=>∃i:Nat,v=.int .i64 i/\i<=n.ks.length/\Hid (Ext wB wr)/\Hid (KpP (fun b=>A.map (·.block)=some b) w wr)/\Hid (OwnI wr wB.heap.size 3 A c xs)) (fun v _=>n.ks.length-(intOf v).toNat)
 case atStart=>exact⟨0,rfl,Nat.zero_le _,X0,K0,OA0⟩
 case round=>
  clear X0 K0 OA0;obtain⟨i,rfl,hi,XR,KR,OA⟩:=hrel;by_cases hlt:i<n.ks.length
  ·obtain⟨kb,ko,eK,HKID⟩:=HN.out.kid i hlt;have cr:=(HN.out.ext XR.out).p.c8.2.2.1;rw[eK] at cr;clear eK;have HI:=lh (IH wr XR.out kb (ko+i*8) HKID A c xs OA.out om hxs);clear HKID
   go_wp2_with (go_at_call 145;refine HI.out.mono ?_;rintro e w6 ⟨z,rfl,x6,k6,o6⟩;have KK:=And.intro (KR.out.trans k6) o6;have X6:=lh x6;have K6:=lh KK.1;have A6:=lh KK.2;clear x6 k6 o6 KK;rcases z with _|_)
   ·go_ret
    exact⟨false,rfl,X6.out,K6.out,A6.out⟩
   ·go_roundw
    case rel=>exact⟨i+1,by go_num,om,X6,K6,A6⟩
    case measure=>simp[intOf];omega
  ·have hle:(n.ks.length:Int)<=i:=om
   go_wp2_with fail
   go_ret
   exact⟨true,rfl,XR.out,KR.out,OA.out⟩):P:=h
theorem cmpLB {P:Prop}(h:P:=by
 go_loopw [52] (fun v wr=>∃i:Nat,v=.int .i64 i/\i<=n.ks.length/\Hid (Ext wB wr)/\Hid (KpP (fun b=>A.map (·.block)=some b) w wr)/\Hid (OwnI wr wB.heap.size 3 A c xs)/\Hid (OwnI wr wB.heap.size 3 B d (xs++[nn]))) (fun v _=>n.ks.length-(intOf v).toNat)
 case atStart=>exact⟨0,rfl,Nat.zero_le _,X0,K0,OA0,OB0⟩
 case round=>
  clear X0 K0 OA0 OB0;obtain⟨i,rfl,hi,XR,KR,OA,OB⟩:=hrel;by_cases hlt:i<n.ks.length
  ·obtain⟨kb,ko,eK,HKID⟩:=HN.out.kid i hlt;have cr:=(HN.out.ext XR.out).p.c8.2.2.1;rw[eK] at cr;clear eK;have HI:=lh (IH wr XR.out kb (ko+i*8) HKID B d (xs++[nn]) OB.out (by rw[List.length_append];simp only[List.length_cons,List.length_nil];omega) hys);rw[show(xs++[nn]).length=xs.length+1 by simp] at HI;clear HKID
   go_wp2_with (go_at_call 145;refine HI.out.mono ?_;rintro e w6 ⟨z,rfl,x6,k6,o6⟩;have KK:=cmpKeep KR.out k6 OA.out o6 hBA.out hAl.out;have X6:=lh x6;have K6:=lh KK.1;have A6:=lh KK.2;have O6:=lh o6;clear x6 k6 o6 KK;rcases z with _|_)
   ·go_ret
    exact⟨false,rfl,X6.out,K6.out,A6.out⟩
   ·go_roundw
    case rel=>exact⟨i+1,by go_num,om,X6,K6,A6,O6⟩
    case measure=>simp[intOf];omega
  ·have hle:(n.ks.length:Int)<=i:=om
   go_wp2_with fail
   go_ret
   exact⟨true,rfl,XR.out,KR.out,OA.out⟩):P:=h
theorem O7z1 {P:Prop} (h:P:=by
 go_upto_region 16 with fail
 clear c0 c2 c3 c5 c6;exact cmpLA):P:=h
theorem comp_step (bd:Nat)(wB:World)(d0:Nat)(hd0:d0<=1000)
 (IH:∀(w:World) (_:Ext wB w) (b o:Nat) (_:PnAt bd wB b o d0) (A:Option Addr) (c:Nat) (xs:List Int) (_:OwnI w wB.heap.size 3 A c xs) (_:xs.length+d0<=2000) (_:∀x∈xs,I64 x),Calls Tryz.prog 145 #[.pointer (some ⟨b,o,none⟩),.slice A xs.length c] w (RetCp wB w A c xs))
 (w:World) (x0:Ext wB w) (b o:Nat) (hp:PnAt bd wB b o (d0+1)) (A:Option Addr) (c:Nat) (xs:List Int) (ho:OwnI w wB.heap.size 3 A c xs) (hxl:xs.length+(d0+1)<=2000) (hxs:∀x∈xs,I64 x) :
 Calls Tryz.prog 145 #[.pointer (some ⟨b,o,none⟩),.slice A xs.length c] w (RetCp wB w A c xs):=by
 obtain⟨n,hn⟩:=hp.node;have HN:=lh hn;have hcap:n.ks.length<=n.kc/\n.kc<=9223372036854775807:=⟨hn.le,by have:=hn.cap;unfold maxLen at this;omega⟩;have hfew:n.ks.length<=3:=hn.ok.few;have hop:=hn.ok.op;have hnn:=hn.ok.n;have hone:=hn.ok.one;have hmd:=hn.ok.md;obtain⟨c0,_,c2,c3,_,c5,c6,_⟩:=(hn.ext x0).p.c8;have X0:=lh x0;have OA0:=lh ho;have K0:=lh (KpP.refl (fun b=>A.map (·.block)=some b) w);have hys:=hxs;have hcapI:=OwnS.caps ho;have hxl2:xs.length<=c/\c<=9223372036854775807:=hcapI;clear hn hp x0 ho hcapI;generalize n.op=op at *;obtain⟨iz0,hi0,hz0,hz1,hz2⟩:=info_parts infoInt;have HAL:=lh (fun(b:Nat) (hb:A.map (·.block)=some b)=>(OwnS.blt OA0.out hb).1);go_enter Tryz.func145,Tryz.ntmps145;rcases hop with rfl|rfl|rfl|rfl|rfl|rfl|rfl
 ·exact O7z1
 ·exact O7z1
 ·exact O7z1
 ·exact O7z1
 ·obtain⟨kb,ko,eK,nk,hnk,htk⟩:=HN.out.kid 0 (by have:=hone (.inl rfl);omega);rw[Nat.zero_mul,Nat.add_zero] at hnk;obtain⟨k0,k1,k2,k3,k4,k5,k6,k7⟩:=(hnk.ext X0.out).c8;have HNU:=lh (null_any bd d0 w nk (htk.ext X0.out));unfold Nd.val at HNU;have h1k:0<n.ks.length:=by have:=hone (.inl rfl);omega
  have h1I:(0:Int)<(n.ks.length:Int):=om;have hmd2:(n.md == 2)=false:=by simp;omega
  have c2':=c2;rw[eK] at c2;clear hnk htk;have HC2:=lh c2
  go_wp2_with (go_at_call 176;refine HNU.out.mono ?_;rintro e w2 ⟨z,rfl,x2⟩;have X2:=lh (X0.out.trans x2);have K2:=lh (KpP.thenExt K0.out x2);have A2:=lh (OwnS.ext OA0.out x2);have c2w:=x2.cell HC2.out;clear x2;rcases z with _|_)
  ·clear X0 K0 OA0 c0 c2 c2' c3 c5 c6 k0 k1 k2 k3 k4 k5 k6 k7 HNU hmd2 HC2 c2w eK;have X0:=X2;have K0:=K2;have OA0:Hid (OwnI w2 wB.heap.size 3 A c xs):=A2;clear X2 K2 A2;exact cmpLA
  ·go_ret
   exact⟨false,rfl,X2.out,K2.out,A2.out⟩
 ·have HCN:=lh (slContains_any w A c xs n.n (IL.of_own OA0.out hxs));have nI:I64 n.n:=by unfold I64;omega
  have hys:∀x∈xs++[n.n],I64 x:=fun x hx=>by
   rcases List.mem_append.1 hx with hx|hx
   ·exact hxs x hx
   ·rw[List.mem_singleton.1 hx];exact nI
  generalize n.n=nn at *;have C2:=fun(w':World) (x:Ext w w')=>lh (And.intro (x.cell c2) (x.cell c6))
  go_upto_region 14 with(go_at_call 177;refine HCN.out.mono ?_;rintro e w2 ⟨z,rfl,x2⟩;have XX:=lh x2;have X2:=lh (X0.out.trans x2);have K2:=lh (KpP.thenExt K0.out x2);have A2:=lh (OwnS.ext OA0.out x2);clear x2;rcases z with _|_)
  ·have c6w:=(C2 w2 XX.out).out.2;have XA:=lh (Ext.alloc w2 (.cells #[.int .i64 nn] 3));have A3:=lh (OwnS.ext A2.out XA.out);have hbz:wB.heap.size<=(w2.alloc (.cells #[.int .i64 nn] 3)).heap.size:=(X2.out.trans XA.out).size
   go_upto_region 15 with(at_builtin;refine wpList_appKeep _ rfl _ _ _ rfl wB.heap.size 3 iz0 (.int .i64 0) Tryz.underlying22 hi0 hz0 hz1 hz2 rfl A xs.length c (xs.map (Value.int .i64)) rfl A3.out ⟨w2.heap.size,0,none⟩ 1 (.int .i64 nn) rfl (cell_one_new _ _ _) rfl om hbz ?_;intro B d w3 hoB hgr hoA hat;have OB0:Hid (OwnI w3 wB.heap.size 3 B d (xs++[nn])):=lh (by unfold OwnI;rw[List.map_append,List.length_append];exact hoB);have OA1:Hid (OwnI w3 wB.heap.size 3 A c xs):=lh hoA;have X3:=lh ((X2.out.trans XA.out).grown hgr (fun k e=>OwnS.row A3.out k e));have K3:=lh ((KpP.thenExt K2.out XA.out).trans (grownK hgr));have HAT:=lh hat;clear hoB hgr hoA hat)
   have hBA:Hid ((B=A/\d=c)\/∀b,B.map (·.block)=some b->w.heap.size<=b):=lh (by
    rcases HAT.out with h|h
    ·exact .inl h
    ·refine .inr (fun b hb=>?_);rw[h] at hb;injection hb with hb
     have h1:=K2.out.size;have h2:=XA.out.size;omega)
   have hdl:=OwnS.caps OB0.out;have hdl2:xs.length+1<=d/\d<=9223372036854775807:=by rw[List.length_append] at hdl;simpa using hdl
   have c2w:=(HN.out.ext X3.out).p.c8.2.2.1;have hAl:=HAL;clear X0 K0 OA0 c0 c2 c3 c5 c6 c6w C2 HCN XX A2 A3 XA X2 K2 HAT hdl hbz
   go_upto_region 16 with fail
   clear c2w;have X0:=X3;have K0:=K3;have OA0:=OA1;clear X3 K3 OA1;exact cmpLB
  ·go_ret
   exact⟨false,rfl,X2.out,K2.out,A2.out⟩
 ·exact O7z1
theorem comp_any (bd:Nat)(wB:World):∀(d0:Nat) (_:d0<=1000) (w:World) (_:Ext wB w) (b o:Nat) (_:PnAt bd wB b o d0) (A:Option Addr) (c:Nat) (xs:List Int) (_:OwnI w wB.heap.size 3 A c xs) (_:xs.length+d0<=2000) (_:∀x∈xs,I64 x),Calls Tryz.prog 145 #[.pointer (some ⟨b,o,none⟩),.slice A xs.length c] w (RetCp wB w A c xs)
 | 0,_,w,_,b,o,hp,A,c,xs,_,_,_=>by obtain⟨e,he⟩:=hp.pos;omega
 | d0+1,h,w,x0,b,o,hp,A,c,xs,ho,hl,hx=>comp_step bd wB d0 om (comp_any bd wB d0 om) w x0 b o hp A c xs ho hl hx
end
end Go.Proofs.YtmocoldobnimfaaGreat
