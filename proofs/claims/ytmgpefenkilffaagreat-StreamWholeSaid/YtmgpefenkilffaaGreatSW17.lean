/- Texts of this proof: O9 O1 O8 O6. -/
import Derived.Test.YtmgpefenkilffaaGreatSW12
set_option linter.all false
set_option maxRecDepth 100000
set_option maxHeartbeats 8000000
namespace Go.Proofs.YtmgpefenkilffaaGreat
section
open Go.RowKit
attribute [local go_sem ↓] Go.wp_at_zero Go.wp_at_succ
def RetP2 (wE:World)(base gc:Nat)(A:Option Addr)(hs:List Hin)(h:Hin)(w:World)(e:Ending)(w':World):Prop:=e=.returned (.int .i64 hs.length)/\(∃(A':Option Addr) (c':Nat),Blk w' gc 33 #[.slice A' (hs++[h]).length c']/\OwnS w' base 129 5 A' (hs++[h]).length c' (flatN (hs++[h]))/\(A'.map (·.block)=A.map (·.block)\/∀b,A'.map (·.block)=some b->w.heap.size<=b))/\RetCX wE base gc (hs++[h]) w w'/\KpP (CQ gc A) w w'
theorem hput2_any (wE w:World)(base gc:Nat)(hE:wE.heap.size<=base)(hbg:base<=gc)(xE:Ext wE w)(hbw:base<=w.heap.size)(hs:List Hin)(A:Option Addr)(c:Nat)(hb:Blk w gc 33 #[.slice A hs.length c])(hown:OwnS w base 129 5 A hs.length c (flatN hs))(hit:∀h∈hs,h.wf/\OwnP w 0 h.A h.c h.l/\∀s∈h.l,I64 s.1/\I64 s.2)(hl:hs.length<=100000)(h:Hin)(hw:h.wf)(ho:OwnP w 0 h.A h.c h.l)(hi:∀s∈h.l,I64 s.1/\I64 s.2) :
 Calls Tryz.prog 160 #[.agg #[.int .i64 h.op,.int .i64 h.x,.int .i64 h.y,.int .i64 h.n,.slice h.A h.l.length h.c],.pointer (some ⟨gc,0,none⟩)] w (RetP2 wE base gc A hs h w):=by
 obtain⟨iN,jN0,jN1,jN2,jN3⟩:=info_parts infoIs;have X0:=Ext.alloc w (.cells #[.int .i64 h.op,.int .i64 h.x,.int .i64 h.y,.int .i64 h.n,.slice h.A h.l.length h.c] 129);have B0:=Blk.new w 129 #[.int .i64 h.op,.int .i64 h.x,.int .i64 h.y,.int .i64 h.n,.slice h.A h.l.length h.c];go_enter Tryz.func160,Tryz.ntmps160
 go_upto_region 1 with fail
 obtain⟨gi,hgi⟩:∃g,g=w.heap.size:=⟨_,rfl⟩
 rw[<-hgi] at B0 ⊢;have HGI:=lh hgi;clear hgi;generalize w.alloc (.cells #[.int .i64 h.op,.int .i64 h.x,.int .i64 h.y,.int .i64 h.n,.slice h.A h.l.length h.c] 129)=w1 at *;have c0:w1.cell? ⟨gc,0,none⟩=some (.slice A hs.length c):=(hb.ext X0).cell 0;have i0:w1.cell? ⟨gi,0,none⟩=some (.int .i64 h.op):=B0.cell 0;have i1:w1.cell? ⟨gi,1,none⟩=some (.int .i64 h.x):=B0.cell 1;have i2:w1.cell? ⟨gi,2,none⟩=some (.int .i64 h.y):=B0.cell 2;have i3:w1.cell? ⟨gi,3,none⟩=some (.int .i64 h.n):=B0.cell 3;have i4:w1.cell? ⟨gi,4,none⟩=some (.slice h.A h.l.length h.c):=B0.cell 4;have X1:=Ext.alloc w1 (.cells #[.int .i64 h.op,.int .i64 h.x,.int .i64 h.y,.int .i64 h.n,.slice h.A h.l.length h.c] 129);have B1:Blk (w1.alloc (.cells #[.int .i64 h.op,.int .i64 h.x,.int .i64 h.y,.int .i64 h.n,.slice h.A h.l.length h.c] 129)) w1.heap.size 129 (flatN [h]).toArray:=Blk.new w1 129 #[.int .i64 h.op,.int .i64 h.x,.int .i64 h.y,.int .i64 h.n,.slice h.A h.l.length h.c];have HOW:=lh ((OwnS.ext hown X0).ext X1);have hsz:=X0.size;have hsz1:=X1.size;have HB1:=(hb.ext X0).ext X1;have hcl:CellsAt (w1.alloc (.cells #[.int .i64 h.op,.int .i64 h.x,.int .i64 h.y,.int .i64 h.n,.slice h.A h.l.length h.c] 129)) (some ⟨w1.heap.size,0,none⟩) (flatN [h]):=blk_cells B1;have HFL:=lh (flatN_one [h]);have h63:hs.length+1<=maxLen:=by unfold maxLen;omega
 have h64:(hs.length+1)*56<=140737488355328:=om;have hbz:base<=(w1.alloc (.cells #[.int .i64 h.op,.int .i64 h.x,.int .i64 h.y,.int .i64 h.n,.slice h.A h.l.length h.c] 129)).heap.size:=om;have H63:=lh (And.intro h63 (And.intro h64 hbz));have f0:=HB1.frz 0;clear h63 h64 hbz;have XW:=lh (X0.trans X1);have HPOST:∀(A':Option Addr) (c':Nat) (w2:World),OwnS w2 base 129 5 A' (hs.length+1) c' (flatN hs++flatN [h])->(w1.alloc (.cells #[.int .i64 h.op,.int .i64 h.x,.int .i64 h.y,.int .i64 h.n,.slice h.A h.l.length h.c] 129)).grownBy w2 (A.map (·.block))->(A'.map (·.block)=A.map (·.block)\/A'.map (·.block)=some (w1.alloc (.cells #[.int .i64 h.op,.int .i64 h.x,.int .i64 h.y,.int .i64 h.n,.slice h.A h.l.length h.c] 129)).heap.size)->
  Hid (Blk w2 gc 33 #[.slice A hs.length c]/\Blk (w2.setCell ⟨gc,0,none⟩ (.slice A' (hs.length+1) c')) gc 33 #[.slice A' (hs.length+1) c']/\(∃(A3:Option Addr) (c3:Nat),Blk (w2.setCell ⟨gc,0,none⟩ (.slice A' (hs.length+1) c')) gc 33 #[.slice A3 (hs++[h]).length c3]/\OwnS (w2.setCell ⟨gc,0,none⟩ (.slice A' (hs.length+1) c')) base 129 5 A3 (hs++[h]).length c3 (flatN (hs++[h]))/\(A3.map (·.block)=A.map (·.block)\/∀b,A3.map (·.block)=some b->w.heap.size<=b))/\RetCX wE base gc (hs++[h]) w (w2.setCell ⟨gc,0,none⟩ (.slice A' (hs.length+1) c'))/\KpP (CQ gc A) w (w2.setCell ⟨gc,0,none⟩ (.slice A' (hs.length+1) c'))):=fun A' c' w2 ho2 hg2 hat2=>lh (by
  have hA:∀b,A.map (·.block)=some b->∃cur,(w1.alloc (.cells #[.int .i64 h.op,.int .i64 h.x,.int .i64 h.y,.int .i64 h.n,.slice h.A h.l.length h.c] 129)).heap[b]? = some (.cells cur 129 (0,0)):=fun b e=>by
   rcases OwnS.form HOW.out with⟨rfl,_⟩|⟨g,cur,rfl,_,hh,_⟩
   ·cases e
   ·injection e with e;subst e;exact⟨cur,hh⟩
  have kg:=KpP.of_grown hg2;have keep1:KeepN gc w w2:=fun b T cs hb' hT hne=>by
   refine kg.blk (hb'.ext XW.out) (fun e=>?_);obtain⟨cur,hh⟩:=hA b e;exact Blk.neT (hb'.ext XW.out) hh hT rfl
  have hb2:Blk w2 gc 33 #[.slice A hs.length c]:=by
   refine kg.blk HB1 (fun e=>?_);obtain⟨cur,hh⟩:=hA gc e;exact Blk.neT HB1 hh de rfl
  have hb3:Blk (w2.setCell ⟨gc,0,none⟩ (.slice A' (hs.length+1) c')) gc 33 #[.slice A' (hs.length+1) c']:=Blk.set hb2 0 _;have keep2:KeepN gc w (w2.setCell ⟨gc,0,none⟩ (.slice A' (hs.length+1) c')):=fun b T cs hb' hT hne=>(keep1 b T cs hb' hT hne).far hne _;have hA2:A'.map (·.block)≠some gc:=fun e=>by
   rcases OwnS.form ho2 with⟨rfl,_⟩|⟨g,cur,rfl,_,hh,_⟩
   ·cases e
   ·injection e with e;exact Blk.neT hh hb2 de e
  have hatW:A'.map (·.block)=A.map (·.block)\/∀b,A'.map (·.block)=some b->w.heap.size<=b:=by
   rcases hat2 with e|e
   ·exact .inl e
   ·refine .inr (fun b hb=>?_);rw[e] at hb;injection hb with hb
    have:=XW.out.size;omega
  refine⟨hb2,hb3,⟨A',c',by rw[List.length_append];exact hb3,by rw[List.length_append,flatN_append];exact ho2.far hA2 _,hatW⟩,⟨⟨⟨A',c',?_,?_⟩,fun z hz=>?_⟩,?_,keep2⟩,?_⟩
  ·rw[List.length_append];exact hb3
  ·rw[List.length_append,flatN_append];exact ho2.far hA2 _
  ·rcases List.mem_append.1 hz with hz|hz
   ·obtain⟨q1,q2,q3⟩:=hit z hz;exact⟨q1,OwnS.keepN q2 keep2 de (OwnP.ne_gc q2 hb),q3⟩
   ·rw[List.mem_singleton.1 hz];exact⟨hw,OwnS.keepN ho keep2 de (OwnP.ne_gc ho hb),hi⟩
  ·have xb:Ext wE (w1.alloc (.cells #[.int .i64 h.op,.int .i64 h.x,.int .i64 h.y,.int .i64 h.n,.slice h.A h.l.length h.c] 129)):=xE.trans XW.out;exact(xb.grown hg2 (fun k e=>by have:=OwnS.row HOW.out k e;omega)).setNew (p:=⟨gc,0,none⟩) (by show wE.heap.size<=gc;omega) _
  ·exact((KpP.of_ext XW.out).trans (kg.mono (fun k e=>.inr e))).set (x:=⟨gc,0,none⟩) (.inl (.inl rfl)) _)
 have HLL:Hid (((hs.length:Int)+1:Int)-1=hs.length):=lh om;clear hb hown hit X0 X1 B0 B1 HB1 ho hi
 go_upto_region 2 with(at_builtin;refine wpList_app _ rfl _ _ _ rfl base 129 iN _ 5 56 Tryz.underlying33 jN0 jN1 jN2 jN3 rfl om A hs.length c (flatN hs) rfl HOW.out _ 1 1 (flatN [h]) rfl rfl hcl HFL.out H63.out.1 H63.out.2.1 H63.out.2.2 ?_;intro A' c' w2 ho2 hg2 hat2;have HP:=HPOST A' c' w2 ho2 hg2 hat2;have z0:=HP.out.1.cell 0;have z1:=HP.out.1.frz 0)
 have HP2:=lh HP.out.2.2;have q0:=HP.out.2.1.cell 0;generalize w2.setCell ⟨gc,0,none⟩ (.slice A' (hs.length+1) c')=w3 at *;have q0:w3.cell? ⟨gc,0,none⟩=some (.slice A' (hs.length+1) c'):=q0;clear HP z0 z1 hg2 ho2 hat2 HPOST HOW hcl
 go_wp2_with fail
 go_ret
 exact⟨by first|rfl|(congr 2;omega),HP2.out⟩
structure WB4 (w:World)(gc gq gw ga gr:Nat):Prop where
 wb:WB w gc gq gw ga gr
 r:Blk w gr 273 #[.func (Fn.func 161) #[] #[.pointer (some ⟨gw,0,none⟩),.pointer (some ⟨gq,0,none⟩),.pointer (some ⟨gc,0,none⟩)]]
 a:Blk w ga 275 #[.func (Fn.func 163) #[] #[.pointer (some ⟨gq,0,none⟩),.pointer (some ⟨gw,0,none⟩),.pointer (some ⟨gc,0,none⟩)]]
theorem WB4.ext {w w':World}{gc gq gw ga gr:Nat}(h:WB4 w gc gq gw ga gr)(x:Ext w w'):WB4 w' gc gq gw ga gr:=⟨h.wb.ext x,h.r.ext x,h.a.ext x⟩
theorem WB4.keep {w w':World}{gc gq gw ga gr:Nat}{cs:Array Value}(h:WB4 w gc gq gw ga gr)(hb:Blk w gc 33 cs)(k:KeepN gc w w'):WB4 w' gc gq gw ga gr:=
 ⟨h.wb.keep hb k,k _ _ _ h.r de (Blk.neT h.r hb de),k _ _ _ h.a de (Blk.neT h.a hb de)⟩
structure CS (wE:World)(base gc gq gw ga gr:Nat)(w:World)(A:Option Addr)(c:Nat)(hs:List Hin):Prop where
 b:Blk w gc 33 #[.slice A hs.length c]
 o:OwnS w base 129 5 A hs.length c (flatN hs)
 it:∀h∈hs,h.wf/\OwnP w 0 h.A h.c h.l/\(∀s∈h.l,I64 s.1/\I64 s.2)/\SetE rimE h.l
 bx:WB4 w gc gq gw ga gr
 x:Ext wE w
structure CT (gc:Nat)(A:Option Addr)(w:World)(A':Option Addr)(w':World):Prop where
 kp:KpP (CQ gc A) w w'
 nw:A'.map (·.block)=A.map (·.block)\/∀b,A'.map (·.block)=some b->w.heap.size<=b
 kn:KeepN gc w w'
theorem CT.refl (gc:Nat)(A:Option Addr)(w:World):CT gc A w A w:=⟨KpP.refl _ _,.inl rfl,KeepN.refl _ _⟩
theorem CT.of_ext (gc:Nat)(A:Option Addr){w w':World}(x:Ext w w'):CT gc A w A w':=⟨KpP.of_ext x,.inl rfl,KeepN.of_ext x⟩
theorem CT.trans {gc:Nat}{A A1 A2:Option Addr}{w w1 w2:World}(h:CT gc A w A1 w1)(k:CT gc A1 w1 A2 w2):CT gc A w A2 w2:=by
 refine⟨⟨k.kp.os.trans h.kp.os,k.kp.tape.trans h.kp.tape,k.kp.output.trans h.kp.output,Nat.le_trans h.kp.size k.kp.size,fun i hi hn=>?_⟩,?_,h.kn.trans k.kn⟩
 ·rw[k.kp.block i (Nat.lt_of_lt_of_le hi h.kp.size) (fun hq=>?_)]
  ·exact h.kp.block i hi hn
  ·rcases hq with hq|hq
   ·exact hn (.inl hq)
   ·rcases h.nw with e|e
    ·exact hn (.inr (by rw[<-e];exact hq))
    ·have:=e i hq;omega
 ·rcases k.nw with e|e
  ·rcases h.nw with e2|e2
   ·exact .inl (e.trans e2)
   ·exact .inr (fun b hb=>e2 b (by rw[<-e];exact hb))
  ·exact .inr (fun b hb=>Nat.le_trans h.kp.size (e b hb))
section
variable {wE w w':World} {base gc gq gw ga gr c:Nat} {A:Option Addr} {hs:List Hin}
theorem CS.ext (h:CS wE base gc gq gw ga gr w A c hs)(x:Ext w w'):CS wE base gc gq gw ga gr w' A c hs:=
 ⟨h.b.ext x,OwnS.ext h.o x,fun z hz=>⟨(h.it z hz).1,OwnS.ext (h.it z hz).2.1 x,(h.it z hz).2.2⟩,h.bx.ext x,h.x.trans x⟩
end
def RetPt (wE:World)(base gc gq gw ga gr:Nat)(w:World)(A:Option Addr)(hs:List Hin)(h:Hin)(e:Ending)(w':World):Prop:=
 ∃(A':Option Addr) (c':Nat),e=.returned (.int .i64 hs.length)/\CS wE base gc gq gw ga gr w' A' c' (hs++[h])/\CT gc A w A' w'
theorem hput_cs (wE w:World)(base gc gq gw ga gr:Nat)(hE:wE.heap.size<=base)(hbg:base<=gc)(A:Option Addr)(c:Nat)(hs:List Hin)(hc:CS wE base gc gq gw ga gr w A c hs)(hl:hs.length<=100000)(hbw:base<=w.heap.size)
 (h:Hin) (hw:h.wf) (ho:OwnP w 0 h.A h.c h.l) (hi:∀s∈h.l,I64 s.1/\I64 s.2) (hse:SetE rimE h.l) :
 Calls Tryz.prog 160 #[.agg #[.int .i64 h.op,.int .i64 h.x,.int .i64 h.y,.int .i64 h.n,.slice h.A h.l.length h.c],.pointer (some ⟨gc,0,none⟩)] w (RetPt wE base gc gq gw ga gr w A hs h):=by
 refine(hput2_any wE w base gc hE hbg hc.x hbw hs A c hc.b hc.o (fun z hz=>⟨(hc.it z hz).1,(hc.it z hz).2.1,(hc.it z hz).2.2.1⟩) hl h hw ho hi).mono ?_;rintro e w' ⟨rfl,⟨A',c',h1,h2,h3⟩,h4,h5⟩;refine⟨A',c',rfl,⟨h1,h2,fun z hz=>?_,hc.bx.keep hc.b h4.2.2,h4.2.1⟩,h5,h3,h4.2.2⟩;obtain⟨q1,q2,q3⟩:=h4.1.it z hz;refine⟨q1,q2,q3,?_⟩;rcases List.mem_append.1 hz with hz|hz
 ·exact(hc.it z hz).2.2.2
 ·rw[List.mem_singleton.1 hz];exact hse
def NuB (w:World)(gw:Nat):Prop:=Blk w gw 347 #[.func (Fn.func 220) #[] #[.pointer (some ⟨gw,0,none⟩)]]
end
end Go.Proofs.YtmgpefenkilffaaGreat
