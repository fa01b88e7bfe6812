/- Texts of this proof: OA OB O7 M6 M7. -/
import Derived.Test.YtmgpefenkilffaaGreatSW17
import Derived.Maps.AppendAt
set_option linter.all false
namespace Go.Proofs.YtmgpefenkilffaaGreat
section
open Go.RowKit
attribute [local go_sem ↓] Go.wp_at_zero Go.wp_at_succ
theorem own_ct {w:World}{base gc g n c q:Nat}{xs:List Value}(h:OwnS w base 129 5 (some ⟨g,0,none⟩) n c xs)(hq:q<xs.length)(v:Value) :
 OwnS (w.setCell ⟨g,q,none⟩ v) base 129 5 (some ⟨g,0,none⟩) n c (xs.set q v)/\CT gc (some ⟨g,0,none⟩) w (some ⟨g,0,none⟩) (w.setCell ⟨g,q,none⟩ v):=by
 obtain⟨g',he,_,_,_,_,hst⟩:=OwnS.store h hq;injection he with he;injection he with he _ _
 subst he;refine⟨hst v,(KpP.refl _ w).set (x:=⟨g,q,none⟩) (.inl (.inr rfl)) _,.inl rfl,fun b T cs hb hT hne=>?_⟩;rcases OwnS.form h with⟨e,_⟩|⟨g2,cur,e,_,hh,_⟩
 ·cases e
 ·injection e with e;injection e with e _ _
  subst e;have hBG:Blk w g 129 cur:=hh;exact hb.far (by exact Blk.neT hb hBG hT) _
theorem own_c5 {w:World}{base c i:Nat}{A:Option Addr}{hs:List Hin}(h:OwnS w base 129 5 A hs.length c (flatN hs))(hi:i<hs.length) :
 ∃g,A=some ⟨g,0,none⟩/\base<=g/\∀k,k<5->∃v,w.cell? ⟨g,i*5+k,none⟩=some v/\w.frozen? ⟨g,i*5+k,none⟩=false:=by
 obtain⟨g,he,hb,_,_,_,_⟩:=OwnS.store h (i:=i*5) (by rw[flatN_len];omega);refine⟨g,he,hb,fun k hk=>?_⟩;obtain⟨g',he',_,h1,h2,_,_⟩:=OwnS.store h (i:=i*5+k) (by rw[flatN_len];omega);rw[he] at he';injection he' with he';injection he' with he' _ _
 subst he';exact⟨_,h1,h2⟩
def setQ5 (w:World)(g q:Nat)(op x y n:Int):World:=((((w.setCell ⟨g,q,none⟩ (.int .i64 op)).setCell ⟨g,q+1,none⟩ (.int .i64 x)).setCell ⟨g,q+2,none⟩ (.int .i64 y)).setCell ⟨g,q+3,none⟩ (.int .i64 n)).setCell ⟨g,q+4,none⟩ (.slice none 0 0)
theorem flatN_setQ5:∀(hs:List Hin) (i:Nat) (op x y n:Int) (_:i<hs.length),
 ((((((flatN hs).set (i*5) (.int .i64 op)).set (i*5+1) (.int .i64 x)).set (i*5+2) (.int .i64 y)).set (i*5+3) (.int .i64 n)).set (i*5+4) (.slice none 0 0))=flatN (hs.set i ⟨op,x,y,n,none,0,[]⟩)
 | [],i,_,_,_,_,hi=>by simp at hi
 | h::hs,0,_,_,_,_,_=>by simp[flatN_cons]
 | h::hs,i+1,op,x,y,n,hi=>by
  have ih:=flatN_setQ5 hs i op x y n (by simpa using hi);have e0:(i+1)*5=i*5+1+1+1+1+1:=om;have e2:i*5+1+1+1+1+1+2=i*5+2+1+1+1+1+1:=om;have e3:i*5+1+1+1+1+1+3=i*5+3+1+1+1+1+1:=om;have e4:i*5+1+1+1+1+1+4=i*5+4+1+1+1+1+1:=om;rw[e0,e2,e3,e4,flatN_cons];simp only[List.set_cons_succ,ih,flatN_cons]
section
variable {wE w w':World} {base gc gq gw ga gr c:Nat} {A:Option Addr} {hs hs':List Hin}
theorem CS.upd (h:CS wE base gc gq gw ga gr w A c hs)(ho:OwnS w' base 129 5 A hs'.length c (flatN hs'))(hl:hs'.length=hs.length)(hct:CT gc A w A w')(hb:Blk w' gc 33 #[.slice A hs.length c])(hx:Ext wE w')
 (hm:∀z∈hs',z.wf/\((∃u∈hs,z.A=u.A/\z.c=u.c/\z.l=u.l)\/(z.A=none/\z.c=0/\z.l=[]))):CS wE base gc gq gw ga gr w' A c hs':=by
 refine⟨by rw[hl];exact hb,ho,fun z hz=>?_,h.bx.keep h.b hct.kn,hx⟩;obtain⟨hw,⟨u,hu,e1,e2,e3⟩|⟨e1,e2,e3⟩⟩:=hm z hz
 ·obtain⟨q1,q2,q3,q4⟩:=h.it u hu;rw[e1,e2,e3];exact⟨hw,OwnS.keepN q2 hct.kn de (OwnP.ne_gc q2 h.b),q3,q4⟩
 ·rw[e1,e2,e3];exact⟨hw,OwnP.nil _ _,by simp,SetE.nil _⟩
theorem CS.put5 (h:CS wE base gc gq gw ga gr w A c hs)(hE:wE.heap.size<=base){i:Nat}(hi:i<hs.length){g:Nat}(hA:A=some ⟨g,0,none⟩){op x y n:Int}(hw:I64 op/\I64 x/\I64 y/\I64 n) :
 CS wE base gc gq gw ga gr (setQ5 w g (i*5) op x y n) A c (hs.set i ⟨op,x,y,n,none,0,[]⟩)/\CT gc A w A (setQ5 w g (i*5) op x y n):=by
 subst hA;have hl:=flatN_len hs;have ho:=h.o;obtain⟨g',he,hbg,_,_,_,_⟩:=OwnS.store ho (i:=i*5) om;injection he with he;injection he with he _ _
 subst he;have hne:gc≠g:=fun e=>own_blk ho h.b de (by rw[e];rfl);obtain⟨o1,k1⟩:=own_ct (gc:=gc) ho (q:=i*5) om (.int .i64 op);obtain⟨o2,k2⟩:=own_ct (gc:=gc) o1 (q:=i*5+1) (by simp;omega) (.int .i64 x);obtain⟨o3,k3⟩:=own_ct (gc:=gc) o2 (q:=i*5+2) (by simp;omega) (.int .i64 y);obtain⟨o4,k4⟩:=own_ct (gc:=gc) o3 (q:=i*5+3) (by simp;omega) (.int .i64 n);obtain⟨o5,k5⟩:=own_ct (gc:=gc) o4 (q:=i*5+4) (by simp;omega) (.slice none 0 0);rw[flatN_setQ5 hs i op x y n hi] at o5;have k:CT gc (some ⟨g,0,none⟩) w (some ⟨g,0,none⟩) (setQ5 w g (i*5) op x y n):=k1.trans (k2.trans (k3.trans (k4.trans k5)));refine⟨h.upd (by rw[List.length_set];exact o5) (List.length_set ..) k ((((((h.b.far hne _).far hne _).far hne _).far hne _).far hne _)) ?_ (fun z hz=>?_),k⟩
 ·exact(((((h.x.setNew (p:=⟨g,i*5,none⟩) (by show wE.heap.size<=g;omega) _).setNew (p:=⟨g,i*5+1,none⟩) (by show wE.heap.size<=g;omega) _).setNew (p:=⟨g,i*5+2,none⟩) (by show wE.heap.size<=g;omega) _).setNew (p:=⟨g,i*5+3,none⟩) (by show wE.heap.size<=g;omega) _).setNew (p:=⟨g,i*5+4,none⟩) (by show wE.heap.size<=g;omega) _)
 ·rcases List.mem_or_eq_of_mem_set hz with hz|rfl
  ·exact⟨(h.it z hz).1,.inl ⟨z,hz,rfl,rfl,rfl⟩⟩
  ·exact⟨hw,.inr ⟨rfl,rfl,rfl⟩⟩
theorem CS.putX (h:CS wE base gc gq gw ga gr w A c hs)(hE:wE.heap.size<=base){i:Nat}(hi:i<hs.length){g:Nat}(hA:A=some ⟨g,0,none⟩){v:Int}(hv:I64 v) :
 CS wE base gc gq gw ga gr (w.setCell ⟨g,i*5+1,none⟩ (.int .i64 v)) A c (hs.set i (hs[i].putI 1 v))/\CT gc A w A (w.setCell ⟨g,i*5+1,none⟩ (.int .i64 v)):=by
 subst hA;have hl:=flatN_len hs;have ho:=h.o;obtain⟨g',he,hbg,_,_,_,_⟩:=OwnS.store ho (i:=i*5) om;injection he with he;injection he with he _ _
 subst he;have hne:gc≠g:=fun e=>own_blk ho h.b de (by rw[e];rfl);obtain⟨o1,k1⟩:=own_ct (gc:=gc) ho (q:=i*5+1) om (.int .i64 v);rw[flatN_setI hs i 1 v hi om] at o1;refine⟨h.upd (by rw[List.length_set];exact o1) (List.length_set ..) k1 (h.b.far hne _) (h.x.setNew (p:=⟨g,i*5+1,none⟩) (by show wE.heap.size<=g;omega) _) (fun z hz=>?_),k1⟩;rcases List.mem_or_eq_of_mem_set hz with hz|rfl
 ·exact⟨(h.it z hz).1,.inl ⟨z,hz,rfl,rfl,rfl⟩⟩
 ·have hm:hs[i]∈hs:=List.getElem_mem hi;exact⟨putI_wf (h.it _ hm).1 hv,.inl ⟨_,hm,(putI_l _ _ _).2.1,(putI_l _ _ _).2.2,(putI_l _ _ _).1⟩⟩
end
def OwnJ (w:World)(base:Nat)(J:Option Addr)(n c:Nat)(js:List Nat):Prop:=js.length=n/\OwnS w base 3 1 J n c (js.map (fun(j:Nat)=>Value.int .i64 (j:Int)))
theorem OwnJ.nil (w:World)(base:Nat):OwnJ w base none 0 0 []:=⟨rfl,OwnS.nil _ _ _ _⟩
theorem OwnJ.ext {w w':World}{base n c:Nat}{J:Option Addr}{js:List Nat}(h:OwnJ w base J n c js)(x:Ext w w'):OwnJ w' base J n c js:=⟨h.1,OwnS.ext h.2 x⟩
theorem OwnJ.ct {w w':World}{base n c gc:Nat}{J A A':Option Addr}{js:List Nat}{cs:Array Value}(h:OwnJ w base J n c js)(hb:Blk w gc 33 cs)(k:CT gc A w A' w'):OwnJ w' base J n c js:=
 ⟨h.1,OwnS.keepN h.2 k.kn de (fun b e hbe=>own_blk h.2 hb de (by rw[e,hbe]))⟩
theorem OwnJ.get {w:World}{base n c:Nat}{J:Option Addr}{js:List Nat}(h:OwnJ w base J n c js){i:Nat}(hi:i<n):∃g o j,J=some ⟨g,o,none⟩/\w.cell? ⟨g,o+i,none⟩=some (.int .i64 (j:Nat))/\j∈js/\js[i]? = some j:=by
 have hl:i<js.length:=by have:=h.1;omega
 obtain⟨b,o,rfl,hc⟩:=OwnS.cells h.2 (by intro e;have:=congrArg List.length e;simp at this;subst this;simp at hl);have:=hc i (by simpa using hl);exact⟨b,o,js[i],rfl,by simpa using this,List.getElem_mem hl,by simp[hl]⟩
theorem OwnJ.caps {w:World}{base n c:Nat}{J:Option Addr}{js:List Nat}(h:OwnJ w base J n c js):n<=c/\c<=9223372036854775807:=OwnS.caps h.2
theorem wpList_appJ {P:Program}{w1 w:World}{ops:Array Oper}{rest:List Oper}{o:Oper}{a:Act}{Q:Exit->Act->World->Prop}(hgd:o.guard=none)(s x:Operand)(t:Nat)
 (ho:o.op=.call { callee:=.builtin .append,args:=#[s,x],argTypes:=#[t,t] })
 (hinf:(P.info? 3).map (fun i=>(i.zero,i.size,i.bytes))=some (some (.int .i64 0),1,8)) (ht:P.underlying t=some (.slice 3))
 (base:Nat) (hbw:base<=w1.heap.size) (v:Int) (j:Nat) (hv:v=(j:Int)) (hw:w=w1.alloc (.cells #[.int .i64 v] 3))
 (J:Option Addr) (n c:Nat) (js:List Nat) (hs:a.eval s=.slice J n c) (hown:OwnJ w1 base J n c js)
 (hx:a.eval x=.slice (some ⟨w1.heap.size,0,none⟩) 1 1) (hb:n<=1099511627776)
 (h:∀A' c' w',OwnJ w' base A' (n+1) c' (js++[j])->w1.grownBy w' (J.map (·.block))->wpList P ops Q rest (a.put o.dst (.slice A' (n+1) c')) w'):wpList P ops Q (o::rest) a w:=by
 obtain⟨i0,hi0,hz0,hz1,hz2⟩:=info_parts hinf;subst hw hv;have e1:=Ext.alloc w1 (.cells #[.int .i64 (j:Int)] 3);have hc:CellsAt (w1.alloc (.cells #[.int .i64 (j:Int)] 3)) (some ⟨w1.heap.size,0,none⟩) [.int .i64 (j:Int)]:=fun _=>⟨_,0,rfl,fun i hi=>by
  have:i=0:=by simpa using hi
  subst this;simp⟩
 refine wpList_app _ hgd s x t ho base 3 i0 (.int .i64 0) 1 8 ht hi0 hz0 hz1 hz2 rfl om J n c _ hs (OwnS.ext hown.2 e1) _ 1 1 [.int .i64 (j:Int)] hx rfl hc
  (by simp[Value.oneCell']) um om (by simp;omega) ?_
 intro A' c' w' ho' hg hat;have hg':w1.grownBy w' (J.map (·.block)):=⟨hg.os,hg.tape,hg.output,Nat.le_trans e1.size hg.size,fun k hk hne=>(hg.block k (Nat.lt_of_lt_of_le hk e1.size) hne).trans (e1.block k hk)⟩;exact h A' c' w' ⟨by have:=hown.1;simp;omega,by simpa using ho'⟩ hg'
section
variable {wE w w1 w2:World} {base gc gq gw ga gr c n d B0:Nat} {A A1 J:Option Addr} {hs:List Hin} {js:List Nat}
theorem CT.grow (h:CT gc A w A1 w1)(hj:OwnJ w1 w.heap.size J n d js)(hg:w1.grownBy w2 (J.map (·.block))):CT gc A w A1 w2:=by
 have hJ:=OwnS.row hj.2;have kg:=KpP.of_grown hg;refine⟨⟨kg.os.trans h.kp.os,kg.tape.trans h.kp.tape,kg.output.trans h.kp.output,Nat.le_trans h.kp.size kg.size,fun i hi hn=>?_⟩,h.nw,fun b T cs hb hT hne=>?_⟩
 ·rw[kg.block i (Nat.lt_of_lt_of_le hi h.kp.size) (fun e=>by have:=hJ i e;omega)];exact h.kp.block i hi hn
 ·exact kg.blk (h.kn b T cs hb hT hne) (fun e=>by have:=hJ b e;have:=hb.lt;omega)
theorem CS.grow (h:CS wE base gc gq gw ga gr w1 A c hs)(hj:OwnJ w1 B0 J n d js)(hB:wE.heap.size<=B0)(hg:w1.grownBy w2 (J.map (·.block))):CS wE base gc gq gw ga gr w2 A c hs:=by
 have kg:=KpP.of_grown hg;have hJ:∀b,J.map (·.block)=some b->wE.heap.size<=b:=fun b e=>Nat.le_trans hB (OwnS.row hj.2 b e);have kb:∀{b T:Nat} {cs:Array Value},Blk w1 b T cs->3≠T->Blk w2 b T cs:=fun hb hT=>kg.blk hb (own_blk hj.2 hb hT);have ko:∀{b1 e s m k:Nat} {B:Option Addr} {xs:List Value},OwnS w1 b1 e s B m k xs->3≠e->OwnS w2 b1 e s B m k xs:=fun ho he=>OwnS.kp ho kg (fun b h1 h2=>by
  obtain⟨_,cur,e1⟩:=OwnS.blt ho h1;exact own_blk hj.2 (show Blk w1 b _ cur from e1) he h2)
 exact⟨kb h.b de,ko h.o de,fun z hz=>⟨(h.it z hz).1,ko (h.it z hz).2.1 de,(h.it z hz).2.2⟩,⟨⟨kb h.bx.wb.q de,kb h.bx.wb.w de⟩,kb h.bx.r de,kb h.bx.a de⟩,h.x.grown hg hJ⟩
theorem CS.nin (h:CS wE base gc gq gw ga gr w A c hs){b T:Nat}{cs:Array Value}(hb:Blk w b T cs)(h1:T≠33)(h2:T≠129):b∉gc::bl A:=fun e=>by
 rcases List.mem_cons.1 e with e|e
 ·exact Blk.neT hb h.b h1 e
 ·exact own_blk h.o hb (fun e=>h2 e.symm) (bl.mem e)
end
def hin0 (op:Int):Hin:=⟨op,0,0,0,none,0,[]⟩
theorem hin0_wf {op:Int}(h:I64 op):(hin0 op).wf:=⟨h,by unfold I64 hin0;simp,by unfold I64 hin0;simp,by unfold I64 hin0;simp⟩
theorem OwnS.preK {w:World}{base e n c:Nat}{A:Option Addr}{xs:List Value}{v:Value}(h:OwnS w base e 1 A (n+1) c (xs++[v]))(hn:xs.length=n):OwnS w base e 1 A n c xs:=by
 refine⟨om,?_⟩;rcases OwnS.form h with⟨_,h0,_⟩|⟨g,cur,rfl,hb,hh,h1,h2,h3,h4⟩
 ·omega
 ·refine .inr ⟨g,c,cur,rfl,hb,hh,om,h2,h3,?_⟩;rw[Nat.mul_one] at h4 ⊢;have h5:=congrArg (List.take n) h4;rw[List.take_take,Nat.min_eq_left om,List.take_append_of_le_length om] at h5;rw[h5];exact List.take_of_length_le om
theorem grownK {w w':World}{A:Option Addr}(hg:w.grownBy w' (A.map (·.block))):KpP (fun b=>A.map (·.block)=some b) w w':=⟨hg.os,hg.tape,hg.output,hg.size,fun k hk hn=>hg.block k hk (fun e=>hn e.symm)⟩
theorem cmpKeep {w wr w':World}{base c d:Nat}{A B:Option Addr}{xs:List Int}{v:Int}(KR:KpP (fun b=>A.map (·.block)=some b) w wr)(k:KpP (fun b=>B.map (·.block)=some b) wr w')(OA:OwnI wr base 3 A c xs)(OB:OwnI w' base 3 B d (xs++[v]))
 (hBA:(B=A/\d=c)\/∀b,B.map (·.block)=some b->w.heap.size<=b) (hA:∀b,A.map (·.block)=some b->b<w.heap.size):KpP (fun b=>A.map (·.block)=some b) w w'/\OwnI w' base 3 A c xs:=by
 rcases hBA with⟨rfl,rfl⟩|hBA
 ·refine⟨KR.trans k,?_⟩;unfold OwnI at OB ⊢;rw[List.map_append,List.length_append] at OB;exact OwnS.preK OB si
 ·refine⟨⟨k.os.trans KR.os,k.tape.trans KR.tape,k.output.trans KR.output,Nat.le_trans KR.size k.size,fun i hi hn=>?_⟩,?_⟩
  ·rw[k.block i (Nat.lt_of_lt_of_le hi KR.size) (fun hb=>by have:=hBA i hb;omega)];exact KR.block i hi hn
  ·exact OwnS.kp OA k (fun b h1 h2=>by have h3:=hA b h1;have h4:=hBA b h2;omega)
theorem store_blkF {w:World}{g T:Nat}{v:Value}(h:Blk w g T #[v])(f:Nat)(cs:Array Value):(store ⟨g,0,none⟩ (.func (Fn.func f) #[] cs)).run Tryz.prog w=.ok () (w.setCell ⟨g,0,none⟩ (.func (Fn.func f) #[] cs)):=by
 have z0:w.cell? ⟨g,0,none⟩=some v:=h.cell 0;rw[run_store Tryz.prog w _ _ _ rfl,z0];simp[h.frz 0]
def setPg (w:World)(g:Nat)(A:Option Addr)(n c:Nat)(caps:Int)(rn:Bool):World:=((w.setCell ⟨g,0,none⟩ (.slice A n c)).setCell ⟨g,1,none⟩ (.int .i64 caps)).setCell ⟨g,2,none⟩ (.bool rn)
theorem setPg_blk {w:World}{g T:Nat}{a0 a1 a2:Value}(h:Blk w g T #[a0,a1,a2])(A:Option Addr)(n c:Nat)(caps:Int)(rn:Bool):Blk (setPg w g A n c caps rn) g T #[.slice A n c,.int .i64 caps,.bool rn]:=by
 have h:=((h.set 0 (.slice A n c)).set 1 (.int .i64 caps)).set 2 (.bool rn)
 simpa[setPg] using h
theorem setPg_ext {a w:World}{g:Nat}(h:Ext a w)(hg:a.heap.size<=g)(A:Option Addr)(n c:Nat)(caps:Int)(rn:Bool):Ext a (setPg w g A n c caps rn):=
 ((h.setNew (p:=⟨g,0,none⟩) hg _).setNew (p:=⟨g,1,none⟩) hg _).setNew (p:=⟨g,2,none⟩) hg _
theorem setPg_kp {L:List Nat}{a w:World}{g:Nat}(h:Kp L a w)(hg:g∈L)(A:Option Addr)(n c:Nat)(caps:Int)(rn:Bool):Kp L a (setPg w g A n c caps rn):=
 ((h.set (p:=⟨g,0,none⟩) (.inl hg) _).set (p:=⟨g,1,none⟩) (.inl hg) _).set (p:=⟨g,2,none⟩) (.inl hg) _
theorem setPg_kpp {p:Nat->Prop}{a w:World}{g:Nat}(h:KpP p a w)(hg:p g)(A:Option Addr)(n c:Nat)(caps:Int)(rn:Bool):KpP p a (setPg w g A n c caps rn):=
 ((h.set (x:=⟨g,0,none⟩) (.inl hg) _).set (x:=⟨g,1,none⟩) (.inl hg) _).set (x:=⟨g,2,none⟩) (.inl hg) _
def inD:Hin:=⟨0,0,0,0,none,0,[]⟩
theorem flat_blk {w:World}{g T:Nat}{h:Hin}(hb:Blk w g T #[.int .i64 h.op,.int .i64 h.x,.int .i64 h.y,.int .i64 h.n,.slice h.A h.l.length h.c]):CellsAt w (some ⟨g,0,none⟩) (flatN [h]):=blk_cells hb
end
end Go.Proofs.YtmgpefenkilffaaGreat
