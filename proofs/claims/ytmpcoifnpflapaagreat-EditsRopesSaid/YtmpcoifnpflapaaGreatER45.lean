/- Texts of this proof: M8 M10 EK OX EQ ER. -/
import Derived.Test.YtmpcoifnpflapaaGreatER24
import Derived.Test.YtmpcoifnpflapaaGreatER31
import Derived.Test.YtmpcoifnpflapaaGreatER35
import Derived.Test.YtmpcoifnpflapaaGreatER38
import Derived.Test.YtmpcoifnpflapaaGreatER44
set_option linter.all false
set_option maxRecDepth 100000
set_option maxHeartbeats 16000000
namespace Go.Proofs.YtmpcoifnpflapaaGreat
section
open Go.RowKit
attribute [local go_sem ↓] Go.wp_at_zero Go.wp_at_succ
theorem KL.kpM {w w':World}{A:Option Addr}{c:Nat}{xs:List Int}{p:Nat->Prop}(h:KL w A c xs)(k:KpP p w w')(hn:∀b,A.map (·.block)=some b->¬p b):KL w' A c xs:=by
 refine⟨h.le,h.cap,h.rng,fun h0=>?_⟩;obtain⟨b,o,rfl,hc⟩:=h.at_ h0;refine⟨b,o,rfl,fun i hi=>?_⟩;have h1:=hc i hi;have hb:w'.heap[b]? = w.heap[b]?:=k.block b (World.block_lt_of_cell? _ _ h1) (hn b rfl)
 simpa[World.cell?,hb] using h1
theorem SmAt.kpT {T:Nat}{w w':World}{g:Nat}{s:Sm}{p:Nat->Prop}(h:SmAt w g s)(k:KpP p w w')(hp:TyQ T w p)(h1:21≠T)(h2:199≠T):SmAt w' g s:=by
 have hn:∀A∈[s.tA,s.lA,s.sA,s.eA],∀b,A.map (·.block)=some b->¬p b:=fun A hA b hb=>by
  obtain⟨cur,e⟩:=h.ty A hA b hb;exact hp.no e h1
 refine⟨k.blk h.blk (hp.no h.blk h2),h.tg.kpM k (hn _ si),h.last.kpM k (hn _ si),h.st.kpM k (hn _ si),h.en.kpM k (hn _ si),fun A hA b hb=>?_⟩;obtain⟨cur,e⟩:=h.ty A hA b hb;exact⟨cur,(k.block b (Array.getElem?_eq_some_iff.1 e).1 (hn A hA b hb)).trans e⟩
def SmT (rn:Bool)(G:List Ins)(g:Nat)(m:Ma)(strt:List Sp)(w:World)(a:Nat)(ts:List Int):Prop:=∃s,SmAt w a s/\SumOf m g (ts.map (clsF rn G strt)) s
theorem all_of {rn:Bool}{ts:List Int}(h:∀x∈ts,symV rn x=true):ts.all (symV rn)=true:=List.all_eq_true.2 h
theorem NewOk.mo_ {w0:World}{rn:Bool}{caps:Int}{G:List Ins}{g:Nat}{m:Ma}{strt:List Sp}{R:List St}(h:NewOk w0 rn caps G g m strt R):Mo w0 g (fun x=>symV rn x=true) (SmT rn G g m strt) where
 ext:=fun⟨s,h1,h2⟩ x=>⟨s,h1.ext x,h2⟩
 kp:=fun⟨s,h1,h2⟩ k q=>⟨s,h1.kpT k q de de,h2⟩
 join:=fun w x a b ta tb ⟨sa,ha,ka⟩ ⟨sb,hb,kb⟩ h1 h2 hl=>((h.ext x).join ha ka hb kb (all_of h1) (all_of h2) hl).mono (fun e w' ⟨gs,s,e1,h3,h4,h5⟩=>⟨gs,e1,⟨s,h3,h4⟩,h5⟩)
 of:=fun w x A c ts hi h1 hl=>((h.ext x).of hi (all_of h1) hl).mono (fun e w' ⟨gs,s,e1,h3,h4,h5⟩=>⟨gs,e1,⟨s,h3,h4⟩,h5⟩)
 emp:=fun w x=>(empty_any w g m _ strt (h.ext x).at_).mono (fun e w' ⟨gs,s,e1,h3,h4,h5⟩=>⟨gs,e1,⟨s,h3,h4⟩,h5⟩)
theorem ndP_blk {w:World}{kb T sb o:Nat}{x:Sp}{cs:Array Value}(h:Blk w kb T cs)(hc:∀i (_:i<8),cs[o+i]? = (ndS sb x).cs[i]?):NdP w kb o (ndS sb x):=fun i hi=>by
 have h8:i<8:=by simpa[Nd.cs] using hi
 rw[h.cell (o+i)];exact(hc i h8).trans (List.getElem?_eq_getElem hi)
end
section
open Go.RowKit
theorem ex4_ins {h1 h2:Hin}(a:InS (97,98) h1)(b:InS (97,98) h2):insL [h1,h2,inD]=exG4:=by
 obtain⟨a1,a2,a3,a4,a5⟩:=a;obtain⟨b1,b2,b3,b4,b5⟩:=b;simp[insL,exG4,inD,Hin.ins,a1,a2,a3,a4,a5,b1,b2,b3,b4,b5]
theorem ex4_small {h1 h2:Hin}(a:InS (97,98) h1)(b:InS (97,98) h2):SmallG (insL [h1,h2,inD]):=by
 refine smallG_of (E:=rimE) (by simp[rimE]) (by simp[rimE]) si (fun i hi=>?_);simp only[List.mem_cons,List.not_mem_nil,or_false] at hi;rcases hi with rfl|rfl|rfl
 ·rw[a.2.2.2.2];simp[SetE,rimE]
 ·rw[b.2.2.2.2];simp[SetE,rimE]
 ·simp[SetE,inD]
theorem ex4_new1 (w:World)(A:Option Addr)(c:Nat)(h1 h2:Hin)(a:InS (97,98) h1)(b:InS (97,98) h2)(hp:PL w A c [h1,h2,inD]) :
 Calls Tryz.prog 13 #[.agg #[.slice A 3 c,.int .i64 0,.bool false]] w (RetM1 exG4 w):=
 (new_any2 w A c [h1,h2,inD] false 0 hp (ex4_small a b)).mono (fun e w' h=>by
  rw[ex4_ins a b] at h;exact RetMN.one h ex4_new)
def NoT (Ts:List Nat)(w:World)(p:Nat->Prop):Prop:=∀b,p b->∀(cur:Array Value) (T:Nat),w.heap[b]? = some (.cells cur T (0,0))->T∉Ts
theorem NoT.no {Ts:List Nat}{w:World}{p:Nat->Prop}(h:NoT Ts w p){b T:Nat}{cur:Array Value}(hb:w.heap[b]? = some (.cells cur T (0,0)))(hT:T∈Ts):¬p b:=fun hp=>h b hp cur T hb hT
theorem TyA.kpN {Ts:List Nat}{T:Nat}{w w':World}{A:Option Addr}{p:Nat->Prop}(h:TyA T w A)(k:KpP p w w')(q:NoT Ts w p)(hT:T∈Ts):TyA T w' A:=fun b hb=>by
 obtain⟨cur,e⟩:=h b hb;exact⟨cur,(k.block b (Array.getElem?_eq_some_iff.1 e).1 (q.no e hT)).trans e⟩
theorem SmAt.kpN {Ts:List Nat}{w w':World}{g:Nat}{s:Sm}{p:Nat->Prop}(h:SmAt w g s)(k:KpP p w w')(q:NoT Ts w p)(h1:21∈Ts)(h2:199∈Ts):SmAt w' g s:=by
 have hn:∀A∈[s.tA,s.lA,s.sA,s.eA],∀b,A.map (·.block)=some b->¬p b:=fun A hA b hb=>by
  obtain⟨cur,e⟩:=h.ty A hA b hb;exact q.no e h1
 refine⟨k.blk h.blk (q.no h.blk h2),h.tg.kpM k (hn _ si),h.last.kpM k (hn _ si),h.st.kpM k (hn _ si),h.en.kpM k (hn _ si),fun A hA b hb=>?_⟩;obtain⟨cur,e⟩:=h.ty A hA b hb;exact⟨cur,(k.block b (Array.getElem?_eq_some_iff.1 e).1 (hn A hA b hb)).trans e⟩
theorem SmT.kpN {rn:Bool}{G:List Ins}{g:Nat}{m:Ma}{strt:List Sp}{Ts:List Nat}{w w':World}{p:Nat->Prop}(k:KpP p w w')(q:NoT Ts w p)(h1:21∈Ts)(h2:199∈Ts):∀a ts,SmT rn G g m strt w a ts->SmT rn G g m strt w' a ts:=fun a ts ⟨s,h3,h4⟩=>⟨s,h3.kpN k q h1 h2,h4⟩
section
variable {w w':World} {g:Nat} {ok:Int->Prop} {S:World->Nat->List Int->Prop} {Ts:List Nat} {p:Nat->Prop}
theorem RtAt.kpN (k:KpP p w w')(q:NoT Ts w p)(hS:∀a ts,S w a ts->S w' a ts)(h1:258∈Ts)(h2:261∈Ts)(h3:3∈Ts):∀{t:Sh} {v:Value},RtAt S w v t->RtAt S w' v t
 | .lf _,_,⟨b,A,c,gs,e,hb,hi,ht,hs⟩=>⟨b,A,c,gs,e,k.blk hb (q.no hb h1),hi.kp k (fun _ b' hb'=>by
  obtain⟨cur,e'⟩:=ht b' hb';exact q.no e' h3),ht.kpN k q h3,hS _ _ hs⟩
 | .nd _ _,_,⟨b,vl,vr,gs,e,hb,h4,h5,hs⟩=>⟨b,vl,vr,gs,e,k.blk hb (q.no hb h2),RtAt.kpN k q hS h1 h2 h3 h4,RtAt.kpN k q hS h1 h2 h3 h5,hS _ _ hs⟩
theorem RpAt.kpN {gr kk:Nat}{o:Option Sh}(h:RpAt S ok w gr g o kk)(k:KpP p w w')(q:NoT Ts w p)(hS:∀a ts,S w a ts->S w' a ts)(h1:258∈Ts)(h2:261∈Ts)(h3:3∈Ts)(h4:184∈Ts):RpAt S ok w' gr g o kk:=by
 obtain⟨v,hb,hv⟩:=h;refine⟨v,k.blk hb (q.no hb h4),?_⟩
 cases o with
 | none=>exact hv
 | some t=>
  have hv':Tr S ok w v t:=hv;exact(⟨RtAt.kpN k q hS h1 h2 h3 hv'.at_,hv'.ok_,hv'.h,hv'.n⟩:Tr S ok w' v t)
end
end
section
open Go.RowKit
attribute [local go_sem ↓] Go.wp_at_zero Go.wp_at_succ
theorem symV_small {rn:Bool}{x:Int}(h0:0<=x)(h1:x<=200):symV rn x=true:=by
 unfold symV
 cases rn<;>simp<;>omega
theorem NewOk.mox {w0:World}{rn:Bool}{caps:Int}{G:List Ins}{g:Nat}{m:Ma}{strt:List Sp}{R:List St}(h:NewOk w0 rn caps G g m strt R):MoX w0 g (fun x=>symV rn x=true) (SmT rn G g m strt) where
 mo:=h.mo_
 ok:=fun _ h0 h1=>symV_small h0 h1
 eq:=fun w _ a b ts ⟨sa,ha,ka⟩ ⟨sb,hb,kb⟩=>by
  have h:=equalS_any w a b sa sb ha hb (by rw[ka.mch,kb.mch]);rw[smEq_of ka kb] at h;exact h
end
section
open Go.RowKit
def rpT:List Nat:=[258,261,3,184,21,199]
theorem DeskAt.noT {w:World}{base g m1 m2 c:Nat}{A:Option Addr}{ap:List (Int×Int×Int)}{nx:List (Int×Int)}{hd:List ((Int×Int)×Hv)}(hD:DeskAt w base g m1 m2 A c ap nx hd):NoT rpT w (ownB g m1 m2 A):=by
 intro b hb cur T e;rcases hb with rfl|rfl|rfl|hb
 ·have h:=hD.blk.symm.trans e;injection h with h
  injection h with _ h
  subst h
  decide
 ·obtain⟨es,cl,h,_⟩:=hD.next;have h:=h.symm.trans e;injection h with h
  cases h
 ·obtain⟨es,cl,h,_⟩:=hD.held;have h:=h.symm.trans e;injection h with h
  cases h
 ·obtain⟨cur',h⟩:=TyA.own hD.own b hb;have h:=h.symm.trans e;injection h with h
  injection h with _ h
  subst h
  decide
theorem splice_edE {o:Option Sh}{e:Ed}(ha:AvO o)(h0:0<=e.at_)(h1:0<=e.del)(h2:e.at_+e.del<=(txtO o).length):spliceE (txtO o) e=txtO (edS o e.at_.toNat e.del.toNat e.ins).1:=by
 rw[(edS_ok (t:=o) (k:=e.at_.toNat) (d:=e.del.toNat) e.ins ha om).2.1];unfold spliceE spliceL;rw[show(e.at_+e.del).toNat=e.at_.toNat+e.del.toNat by omega]
def RxLp (S:World->Nat->List Int->Prop)(ok:Int->Prop)(gx:Nat)(W:World)(g m1 m2:Nat)(its:List It)(es:List Ed)(txs:List (List Int))(i gr:Nat)(wr:World):Prop:=
 ∃(A:Option Addr) (c k:Nat) (s:Ds) (o:Option Sh),TxI its es i s/\DeskAt wr W.heap.size g m1 m2 A c s.ap s.nx []/\BdX s.ap/\RpAt S ok wr gr gx o k/\AvO o/\txtO o=txs.getD i []/\Ext W wr
def RetEe (S:World->Nat->List Int->Prop)(ok:Int->Prop)(gx:Nat)(sp:List Int)(w:World)(e:Ending)(w':World):Prop:=
 ∃(gr k:Nat) (o:Option Sh),e=.returned (.tuple #[.pointer (some ⟨gr,0,none⟩),.int .i64 0])/\RpAt S ok w' gr gx o k/\AvO o/\txtO o=sp/\Ext w w'
theorem oedit_ed {w0:World}{gx:Nat}{ok:Int->Prop}{S:World->Nat->List Int->Prop}(M:Mo w0 gx ok S)(hok:∀x,0<=x->x<=200->ok x)(w:World)(x0:Ext w0 w)(gr k:Nat)(o:Option Sh)(h:RpAt S ok w gr gx o k)(ao:AvO o)
 (ee:Ed) (hl:(txtO o).length<=88) (he:EdOf (txtO o).length ee) (h3:ee.ins.length<=3) (hv:∀y∈ee.ins,0<=y/\y<=200) (B:Option Addr) (d:Nat) (hi:IL w B d ee.ins) :
 Calls Tryz.prog 20 #[.pointer (some ⟨gr,0,none⟩),.agg #[.int .i64 ee.at_,.int .i64 ee.del,.slice B ee.ins.length d]] w (RetEe S ok gx (spliceE (txtO o) ee) w):=by
 have he0:=editErr_zero he om;obtain⟨g1,g2,g3,_⟩:=he;refine(oedit_any M w x0 gr k o h ao om ee.at_ ee.del B d ee.ins hi (fun x hx=>hok x (hv x hx).1 (hv x hx).2) (by unfold I64;omega) om).mono (fun e w' hr=>?_);obtain⟨gr',rfl,hr,x⟩:=RetEd.ok4 hr he0;exact⟨gr',_,_,rfl,hr,(edS_ok ee.ins ao om).1,(splice_edE ao g1 g2 g3).symm,x⟩
def KpR (S:World->Nat->List Int->Prop):Prop:=∀(w w':World) (p:Nat->Prop),KpP p w w'->NoT rpT w p->∀a ts,S w a ts->S w' a ts
theorem SmT.kpR {rn:Bool}{G:List Ins}{g:Nat}{m:Ma}{strt:List Sp}:KpR (SmT rn G g m strt):=fun _ _ _ k q=>SmT.kpN k q de de
theorem RpAt.kpD {S:World->Nat->List Int->Prop}(hS:KpR S){w w':World}{base g m1 m2 c:Nat}{A:Option Addr}{ap:List (Int×Int×Int)}{nx:List (Int×Int)}{hd:List ((Int×Int)×Hv)}(hD:DeskAt w base g m1 m2 A c ap nx hd){ok:Int->Prop}{gx gr kk:Nat}{o:Option Sh}
 (h:RpAt S ok w gr gx o kk) (k:KpP (ownB g m1 m2 A) w w'):RpAt S ok w' gr gx o kk:=
 h.kpN k hD.noT (hS w w' _ k hD.noT) de de de de
end
section
open Go.RowKit
attribute [local go_sem ↓] Go.wp_at_zero Go.wp_at_succ
theorem editsRopes_any (A B:Option Addr)(ca cb:Nat)(l m:List Int)(w:World)(hl:IL w A ca l)(hm:IL w B cb m) :
 Calls Tryz.prog 3 #[.slice A l.length ca,.slice B m.length cb] w (RetV (.bool true) w):=by
 have HI1:=lh hl;have HI2:=lh hm;clear hl hm;have Y1:=Ext.alloc w (.cells #[.int .i64 97,.int .i64 98] 24);have S1:=Blk.new w 24 #[.int .i64 97,.int .i64 98];obtain⟨w1,hw1⟩:∃w1,w1=w.alloc (.cells #[.int .i64 97,.int .i64 98] 24):=⟨_,rfl⟩;obtain⟨s1,hs1⟩:∃s,s=w.heap.size:=⟨_,rfl⟩
 rw[<-hw1] at Y1 S1
 rw[<-hs1] at S1;have hz1:w1.heap.size=w.heap.size+1:=by rw[hw1];simp
 have Y2:=Ext.alloc w1 (.cells #[.int .i64 1,.slice (some ⟨s1,0,none⟩) 1 1,.slice none 0 0,.int .i64 0,.int .i64 0,.int .i64 0,.int .i64 0,.bool false] 28);have P1:=Blk.new w1 28 #[.int .i64 1,.slice (some ⟨s1,0,none⟩) 1 1,.slice none 0 0,.int .i64 0,.int .i64 0,.int .i64 0,.int .i64 0,.bool false];rw[hz1] at P1;go_enter Tryz.func3,Tryz.ntmps3
 go_upto_region 2 with fail
 rw[<-hw1,<-hs1]
 rw[<-hs1] at P1;obtain⟨p1,hp1⟩:∃s,s=s1+1:=⟨_,rfl⟩
 rw[<-hp1] at P1 ⊢;clear hp1 hz1 hs1 hw1;generalize w1.alloc (.cells #[.int .i64 1,.slice (some ⟨s1,0,none⟩) 1 1,.slice none 0 0,.int .i64 0,.int .i64 0,.int .i64 0,.int .i64 0,.bool false] 28)=w2 at *;replace S1:=S1.ext Y2;replace Y2:=lh (Y1.trans Y2);clear Y1;clear w1;have a0:=P1.cell 0;have a1:=P1.cell 1;have a2:=P1.cell 2;have a3:=P1.cell 3;have a4:=P1.cell 4;have a5:=P1.cell 5;have a6:=P1.cell 6;have a7:=P1.cell 7;simp at a0 a1 a2 a3 a4 a5 a6 a7;have Y6:=Ext.alloc w2 (.cells #[.int .i64 1,.slice (some ⟨s1,0,none⟩) 1 1,.slice none 0 0,.int .i64 0,.int .i64 0,.int .i64 0,.int .i64 0,.bool false,.int .i64 1,.slice (some ⟨s1,0,none⟩) 1 1,.slice none 0 0,.int .i64 0,.int .i64 0,.int .i64 0,.int .i64 0,.bool false] 28);have K1:=Blk.new w2 28 #[.int .i64 1,.slice (some ⟨s1,0,none⟩) 1 1,.slice none 0 0,.int .i64 0,.int .i64 0,.int .i64 0,.int .i64 0,.bool false,.int .i64 1,.slice (some ⟨s1,0,none⟩) 1 1,.slice none 0 0,.int .i64 0,.int .i64 0,.int .i64 0,.int .i64 0,.bool false];have L1:LfAt _ w2.heap.size 0 (97,98):=⟨s1,ndP_blk K1 (fun i hi=>by
  have:i=0\/i=1\/i=2\/i=3\/i=4\/i=5\/i=6\/i=7:=om;rcases this with rfl|rfl|rfl|rfl|rfl|rfl|rfl|rfl<;>rfl),S1.ext Y6,by simp⟩
 have L2:LfAt _ w2.heap.size 8 (97,98):=⟨s1,ndP_blk K1 (fun i hi=>by
  have:i=0\/i=1\/i=2\/i=3\/i=4\/i=5\/i=6\/i=7:=om;rcases this with rfl|rfl|rfl|rfl|rfl|rfl|rfl|rfl<;>rfl),S1.ext Y6,by simp⟩
 have HC:=lh (compileC_any _ w2.heap.size _ _ _ _ K1 L1 L2);have HY6:=lh (Y2.out.trans Y6);clear Y6 K1 L1 L2 Y2;unfold patC at HC
 go_upto_region 3 with(go_at_call 12;refine HC.out.mono ?_;rintro e wb ⟨A1,c1,hs,rfl,⟨i1,i2,hi1,hi2,rfl⟩,hpl,xb⟩;have HPL:=lh hpl;have HXb:=lh (HY6.out.trans xb);clear xb hpl)
 clear HC HY6 P1 S1 a0 a1 a2 a3 a4 a5 a6 a7;have X2:=Ext.alloc wb (.cells #[.slice A1 3 c1,.int .i64 0,.bool false] 31);have HX2:=lh (HXb.out.trans X2);have HN:=lh (ex4_new1 _ A1 c1 i1 i2 hi1 hi2 (HPL.out.ext X2));clear X2 HXb
 go_upto_region 6 with(go_at_call 13;refine HN.out.mono ?_;rintro e wd ⟨xd,gx,ma,strt,R,rfl,hn⟩;have HXd:=lh (HX2.out.trans xd);have HNN:=lh hn;clear xd hn)
 have HMX:=lh HNN.out.mox;have HKR:Hid (KpR (SmT false exG4 gx ma strt)):=lh SmT.kpR;generalize SmT false exG4 gx ma strt=S at *;generalize (fun x=>symV false x=true)=ok at *;have HM:=HMX.out.mo;clear HN HNN HX2 HPL hi1 hi2;clear R;have HTX:=lh (rText_any A ca l 40 wd (HI1.out.ext HXd.out) om)
 go_upto_region 7 with(go_at_call 14;refine HTX.out.mono ?_;rintro e w1 ⟨T0,tc0,rfl,hT0,x1,hf1⟩;have HT0:=lh hT0;have HX1:=lh x1;clear hT0 x1 hf1)
 have ht1:=rtext_len l 40;have ht2:=rtext_bd l 40;generalize rtext l 40=t0 at *;have HMK:=lh (rMake_any T0 B tc0 cb t0 m w1 HT0.out (HI2.out.ext (HXd.out.trans HX1.out)) ht1 ht2 12 om);clear HTX
 go_wp2_with fail
 refine HMK.out.mono ?_;rintro e w2 ⟨bs,I,cI,X,cX,its,es,txs,rfl,hbs,h16,hito,htxo,hil,htl,hMk,ht0,x2⟩;clear HMK;have bm:=Blk.new w2 44 #[.slice I its.length cI,.slice X txs.length cX];have em:=Ext.alloc w2 (.cells #[.slice I its.length cI,.slice X txs.length cX] 44)
 go_upto_region 8 with fail
 obtain⟨gm,hgm⟩:∃gm,gm=w2.heap.size:=⟨_,rfl⟩
 rw[<-hgm] at bm ⊢;have HX3:=lh ((HX1.out.trans x2).trans em);have hT3:=lh ((HT0.out.ext x2).ext em);have hito3:=lh (OwnS.ext hito em);have htxo3:=lh (OwnS.ext htxo em);have HIL3:=lh (show ∀h∈its,IL (w2.alloc (.cells #[.slice I its.length cI,.slice X txs.length cX] 44)) h.A h.c h.it.e.ins from fun h hh=>(hil h hh).ext em);have HTL3:=lh (show ∀x∈txs,IL (w2.alloc (.cells #[.slice I its.length cI,.slice X txs.length cX] 44)) x.A x.c x.l from fun h hh=>(htl h hh).ext em);have HMK:=lh hMk;have HT00:=lh ht0;have HBM:=lh bm;generalize w2.alloc (.cells #[.slice I its.length cI,.slice X txs.length cX] 44)=w3 at *;clear hgm em hito htxo hil htl hMk ht0 x2 hbs HT0 HI1 HI2 HX1 bm;have HNEW:=lh (onew_any HM w3 HX3.out T0 tc0 t0 hT3.out (fun x hx=>HMX.out.ok x (ht2 x hx).1 (ht2 x hx).2) om);clear ht1 ht2
 go_upto_region 9 with(go_at_call 16;refine HNEW.out.mono ?_;rintro e w4 ⟨gr,rfl,hr,x4⟩;have HR:=lh hr;have HX34:=lh x4;clear hr x4)
 clear HNEW;obtain⟨to1,to2,_⟩:=treeS_ok t0;generalize (treeS t0).1=o0 at *;generalize (treeS t0).2=k0 at *;have HTO:=lh (And.intro to1 (to2.trans HT00.out.symm));clear to1 to2 HT00 hT3;have hito4:=lh (OwnS.ext hito3.out HX34.out);have htxo4:=lh (OwnS.ext htxo3.out HX34.out);have HIL4:=lh (show ∀h∈its,IL w4 h.A h.c h.it.e.ins from fun h hh=>(HIL3.out h hh).ext HX34.out);have HTL4:=lh (show ∀x∈txs,IL w4 x.A x.c x.l from fun h hh=>(HTL3.out h hh).ext HX34.out);have HBM4:=lh (HBM.out.ext HX34.out);have HX4:=lh (HX3.out.trans HX34.out);clear hito3 htxo3 HIL3 HTL3 HBM HX3 HX34
 go_wp2_with fail
 refine(new_any _).mono ?_;rintro e w5 ⟨g,m1,m2,rfl,x5,hD,hm1,hm2,hg⟩;have HL0:Hid (RxLp S ok gx w4 g m1 m2 (its.map (·.it)) es (txs.map (·.l)) 0 gr w5):=⟨none,0,k0,⟨[],[],[]⟩,o0,TxI.start _ _,hD,by simp[BdX],HR.out.ext HM x5,HTO.out.1,HTO.out.2,x5⟩;have HLO:=lh (show w4.heap.size<=m1/\w4.heap.size<=m2/\w4.heap.size<=g from⟨hm1,hm2,hg⟩);clear hD hm1 hm2 hg x5 HR HTO
 go_wp2_with fail
 go_loopw [12,15] (fun v12 v15 wr=>∃(i gr:Nat),v15=.int .i64 i/\v12=.pointer (some ⟨gr,0,none⟩)/\i<=its.length/\Hid (RxLp S ok gx w4 g m1 m2 (its.map (·.it)) es (txs.map (·.l)) i gr wr)) (fun _ i _=>its.length-(intOf i).toNat)
 case atStart=>exact⟨0,gr,rfl,rfl,om,HL0⟩
 case round=>
  clear HL0;obtain⟨i,gr,rfl,rfl,hi,HL⟩:=hrel;obtain⟨A2,c2,kk,s,o,HTI,hD,hbd,hRP,hAv,hto,xr⟩:=HL.out;have HRP:=lh (And.intro hRP (And.intro hAv hto));clear HL hRP hAv hto;have qm:=(HBM4.out.ext xr).c2;obtain⟨qm0,qm1,qz0,qz1,qlt⟩:=qm;by_cases hlt:i<its.length
  ·have hiI:(i:Int)<its.length:=om;obtain⟨ib,io,hIe,f0,f1,f2,f3,f4,f5⟩:=itemCells (OwnS.ext hito4.out xr) hlt;have iz:=(HIL4.out _ (List.getElem_mem hlt)).ext xr;have hlm:i<(its.map (·.it)).length:=by simpa using hlt
   have h16m:(its.map (·.it)).length<=16:=by simpa using h16
   have hz:(its.map (·.it)).getD i it0=its[i].it:=by rw[getD_get _ _ _ hlm];simp
   have P1:=HMK.out.itOk h16m hlm;have P2:=fun(B:Option Addr) (d:Nat)=>HTI.rdy HMK.out hlm B d;have P3:=fun(B:Option Addr) (d:Nat)=>HTI.step HMK.out hlm B d;have P5:=lh (HMK.out.sized h16m hlm);have P6:=lh (HMK.out.nx i hlm);rw[hz] at P1;simp only[hz] at P2 P3;have hapl:s.ap.length<=16:=by rw[HTI.ap];simp;omega
   clear hz;subst hIe;generalize its[i]=z at *;obtain⟨⟨zc,zn,zb,⟨za,zd,zs⟩⟩,zA,zk⟩:=z
   simp only at f0 f1 f2 f3 f4 f5 iz P1 P2 P3
   have HOWN:=fun W'=>lh (own_any ⟨zc,zn,zb,⟨za,zd,zs⟩⟩ zA zk W');have hge:nxOf s.nx zc<=zn:=Int.le_of_eq (P2 none 0).1.symm;have HTK:=fun(W':World) (hx:Ext wr W')=>lh (take_new w4.heap.size g m1 m2 A2 c2 s.ap s.nx [] ⟨zc,zn,zb,⟨za,zd,zs⟩⟩ zA zk W' (hD.ext hx) P1 (iz.ext hx) rfl hge si hbd om si);have P2H:=lh P2;have P3H:=lh P3;unfold itV at HOWN HTK
   simp only at HOWN HTK
   clear P1 P2 P3 hge hapl HTI
   go_wp2_with fail
   refine(HOWN _).out.mono ?_;rintro e w6 ⟨rfl,x6⟩
   go_wp2_with fail
   refine(HTK _ x6).out.mono ?_;rintro e w7 ⟨B',d',L,cl,out,A3,c3,s3,rfl,hst,hno,hK,hk7,hA3,hB3⟩;clear HTK HOWN;obtain⟨hout,hs3⟩:=steps_one hst rfl (P2H.out B' d') hno;obtain⟨T2,hoe⟩:=P3H.out B' d';replace hout:out=[⟨es.getD i ed0,B',d'⟩]:=hout.trans (congrArg (fun x=>[x]) hoe);have T3':TxI (its.map (·.it)) es (i+1) s3:=by rw[hs3];exact T2
   subst hout;clear hst hno hs3 T2 hoe P2H P3H;have hD7:=hK.desk;rw[T3'.hd] at hD7;have HD7:=lh (And.intro hD7 hK.bd);have ho7:=lh hK.outs;have iE7:=lh (hK.oil _ List.mem_cons_self);have X47:=lh (show Ext w4 w7 from(xr.trans x6).kp hk7 (fun b hb=>by
    rcases hb with rfl|rfl|rfl|hb
    ·exact HLO.out.2.2
    ·exact HLO.out.1
    ·exact HLO.out.2.1
    ·exact OwnS.row hD.own b hb))
   have HR7:=lh (RpAt.kpD HKR.out (hD.ext x6) (HRP.out.1.ext HM x6) hk7);have HAV:=lh HRP.out.2;clear hK hk7 hA3 hB3 hD hbd f0 f1 f2 f3 f4 f5 iz x6 xr qm0 qm1 qz0 qz1 qlt hlm HRP hD7;generalize es.getD i ed0=ee at *;generalize (txs.map (·.l)).getD i []=t at *;obtain⟨sp,hsp⟩:∃sp,sp=spliceE t ee:=⟨_,rfl⟩
   rw[<-hsp] at P6;have HTN:=lh P6.out.symm;have HSP:=lh hsp;clear P6 hsp;obtain⟨ob,oo,hLe,o0,o1,o2⟩:=oneEdit ho7.out;subst hLe
   simp only at o0 o1 o2
   have HO:=lh (And.intro o0 (And.intro o1 o2));have iE:=lh iE7.out.1;clear ho7 iE7 o0 o1 o2
   go_upto_region 18 with fail
   clear hiI
   go_wp2_with fail
   go_loopw [12,18] (fun v12 v18 wr=>∃(q gr:Nat),v18=.int .i64 q/\q<=1/\v12=.pointer (some ⟨gr,0,none⟩)/\Hid (∃(k:Nat) (o:Option Sh),RpAt S ok wr gr gx o k/\AvO o/\txtO o=(if q=0 then t else sp))/\Hid (Ext w7 wr)) (fun _ i _=>1-(intOf i).toNat)
   case atStart=>exact⟨0,gr,rfl,om,rfl,⟨kk,o,HR7.out,HAV.out.1,HAV.out.2⟩,Ext.rfl' _⟩
   case round=>
    clear HR7 HAV;obtain⟨q,gr,rfl,hq1,rfl,HQ,XQ⟩:=hrel;by_cases hq0:q<1
    ·have hqI:(q:Int)<1:=om;obtain rfl:q=0:=om;obtain⟨k,o,hRP,hAv,hto⟩:=HQ.out;rw[if_pos rfl] at hto;subst hto;have HS:=lh (oedit_ed HM HMX.out.ok wr (HX4.out.trans (X47.out.trans XQ.out)) gr k o hRP hAv ee P5.out.2.1 P5.out.1 P5.out.2.2.2.1 P5.out.2.2.2.2 B' d' (iE.out.ext XQ.out));rw[show spliceE (txtO o) ee=sp from HSP.out.symm] at HS;have o0:=XQ.out.cell HO.out.1;have o1:=XQ.out.cell HO.out.2.1;have o2:=XQ.out.cell HO.out.2.2;clear HQ hRP hAv
     go_upto_region 22 with(go_at_call 20;refine HS.out.mono ?_;rintro e y1 ⟨gr2,k2,os2,rfl,hr2,ha2,ht2,x2⟩;have HR2:=lh (And.intro hr2 (And.intro ha2 ht2));have X2:=lh (XQ.out.trans x2);clear hr2 ha2 ht2 x2)
     clear HS o0 o1 o2
     go_wp2_with fail
     go_roundw
     case rel=>exact⟨1,gr2,by go_num,om,rfl,⟨k2,_,HR2.out.1,HR2.out.2.1,by rw[if_neg om];exact HR2.out.2.2⟩,X2⟩
     case measure=>simp[intOf]
    ·have hqI:¬(q:Int)<1:=om;obtain⟨k,o,hRP,hAv,hto⟩:=HQ.out;rw[if_neg om] at hto;have HL2:Hid (RxLp S ok gx w4 g m1 m2 (its.map (·.it)) es (txs.map (·.l)) (i+1) gr wr):=⟨A3,c3,k,s3,o,T3',HD7.out.1.ext XQ.out,HD7.out.2,hRP,hAv,hto.trans HTN.out,X47.out.trans XQ.out⟩;clear HQ hRP hAv hto
     go_wp2_with fail
     go_roundw
     case rel=>exact⟨i+1,gr,by go_num,rfl,om,HL2⟩
     case measure=>simp[intOf];omega
  ·have hiI:¬(i:Int)<its.length:=om;obtain rfl:i=its.length:=om;have hltx:=HMK.out.lt;rw[List.length_map,List.length_map] at hltx;have hjt:its.length<txs.length:=om;obtain⟨xb,xo,hXe,c0⟩:=textCells (OwnS.ext htxo4.out xr) hjt;have itx:=(HTL4.out _ (List.getElem_mem hjt)).ext xr;have hz:=HMK.out.sz its.length si;have hsm:=HMK.out.sm its.length si;have hte:(txs.map (·.l)).getD its.length []=txs[its.length].l:=by
    rw[getD_get _ _ _ (by simpa using hjt)];simp
   rw[hte] at hz hsm;have htt:txtO o=txs[its.length].l:=HRP.out.2.2.trans hte;subst hXe;have hTi:(its.length:Int)<(txs.length:Int):=om;have hTw:IntKind.i64.wrap ((txs.length:Int)-1)=(its.length:Int):=wj;generalize txs[its.length]=tt at *;obtain⟨tA,tk,tl⟩:=tt
   simp only at c0 itx hz hsm htt
   subst htt;have hlen:(txtO o).length<=65536:=om;have XR:=lh (HX4.out.trans xr);have HOF:=lh (HM.of wr XR.out tA tk (txtO o) itx (fun x hx=>HMX.out.ok x (hsm x hx).1 (hsm x hx).2) hlen);have HIT:=lh itx;have HRA:=lh HRP.out.1;have HLE:=lh hlen;clear hz hsm hte HRP hltx hjt itx hD hbd HTI hlen
   go_upto_region 27 with(go_at_call 21;refine HOF.out.mono ?_;rintro e y1 ⟨gs,rfl,hs,x1⟩;have HS1:=lh hs;have Z1:=lh x1;clear hs x1)
   clear HOF c0 hTi hTw qm0 qm1 qz0 qz1 qlt;have HT:=lh (otext_any HM y1 gr kk o (HRA.out.ext HM Z1.out) HLE.out)
   go_wp2_with fail
   refine HT.out.mono ?_;rintro e y2 ⟨A7,c7,rfl,ho7,hr7,x7⟩;have HI7:=lh (IL.of_own ho7 hr7);have Z2:=lh (Z1.out.trans x7);have HS2:=lh (HM.ext HS1.out x7);clear HT ho7 hr7 x7;have HSI:=lh (sameInts_any A7 tA c7 tk (txtO o) (txtO o) y2 HI7.out (HIT.out.ext Z2.out));rw[beq_self_eq_true] at HSI
   go_wp2_with fail
   refine HSI.out.mono ?_;rintro e y3 hq;obtain⟨rfl,x3⟩:=hq.v;have Z3:=lh (Z2.out.trans x3);have HS3:=lh (HM.ext HS2.out x3);clear hq HSI x3;have HSU:=lh (osum_any HM y3 (XR.out.trans Z3.out) gr kk o (HRA.out.ext HM Z3.out))
   go_wp2_with fail
   refine HSU.out.mono ?_;rintro e y4 ⟨gs2,rfl,hs4,x4⟩;have HS4:=lh hs4;have Z4:=lh (Z3.out.trans x4);have HS5:=lh (HM.ext HS3.out x4);clear HSU hs4 x4;have HEQ:=lh (HMX.out.eq y4 (XR.out.trans Z4.out) gs gs2 (txtO o) HS5.out HS4.out)
   go_wp2_with fail
   refine HEQ.out.mono ?_;rintro e y5 ⟨rfl,x5⟩;have Z5:=lh (HXd.out.trans (XR.out.trans (Z4.out.trans x5)));clear HEQ x5
   go_wp2_with fail
   refine(lives_any _).mono ?_;rintro e y6 ⟨rfl,x6⟩
   go_wp2
   go_ret
   exact⟨rfl,Z5.out.trans x6⟩
end
end Go.Proofs.YtmpcoifnpflapaaGreat
