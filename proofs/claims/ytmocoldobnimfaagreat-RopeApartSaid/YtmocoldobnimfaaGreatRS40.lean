/- Texts of this proof: M8 M9 RB RG ON OH OI. -/
import Derived.Test.YtmocoldobnimfaaGreatRS26
import Derived.Test.YtmocoldobnimfaaGreatRS28
import Derived.Test.YtmocoldobnimfaaGreatRS38
import Derived.Test.YtmocoldobnimfaaGreatRS39
set_option linter.all false
set_option maxRecDepth 100000
set_option maxHeartbeats 16000000
namespace Go.Proofs.YtmocoldobnimfaaGreat
section
open Go.RowKit
attribute [local go_sem ↓] Go.wp_at_zero Go.wp_at_succ
theorem ex3_ins {h1 h2:Hin}(a:InS 97 h1)(b:InS 98 h2):insL [h1,h2,inD]=exG3:=by
 obtain⟨a1,a2,a3,a4,a5⟩:=a;obtain⟨b1,b2,b3,b4,b5⟩:=b;simp[insL,exG3,inD,Hin.ins,a1,a2,a3,a4,a5,b1,b2,b3,b4,b5]
theorem ex3_small {h1 h2:Hin}(a:InS 97 h1)(b:InS 98 h2):SmallG (insL [h1,h2,inD]):=by
 refine smallG_of (E:=rimE) (by simp[rimE]) (by simp[rimE]) si (fun i hi=>?_);simp only[List.mem_cons,List.not_mem_nil,or_false] at hi;rcases hi with rfl|rfl|rfl
 ·rw[a.2.2.2.2];simp[SetE,rimE]
 ·rw[b.2.2.2.2];simp[SetE,rimE]
 ·simp[SetE,inD]
theorem KL.kpM {w w':World}{A:Option Addr}{c:Nat}{xs:List Int}{p:Nat->Prop}(h:KL w A c xs)(k:KpP p w w')(hn:∀b,A.map (·.block)=some b->¬p b):KL w' A c xs:=by
 refine⟨h.le,h.cap,h.rng,fun h0=>?_⟩;obtain⟨b,o,rfl,hc⟩:=h.at_ h0;refine⟨b,o,rfl,fun i hi=>?_⟩;have h1:=hc i hi;have hb:w'.heap[b]? = w.heap[b]?:=k.block b (World.block_lt_of_cell? _ _ h1) (hn b rfl)
 simpa[World.cell?,hb] using h1
theorem SmAt.kpT {T:Nat}{w w':World}{g:Nat}{s:Sm}{p:Nat->Prop}(h:SmAt w g s)(k:KpP p w w')(hp:TyQ T w p)(h1:21≠T)(h2:154≠T):SmAt w' g s:=by
 have hn:∀A∈[s.tA,s.lA,s.sA,s.eA],∀b,A.map (·.block)=some b->¬p b:=fun A hA b hb=>by
  obtain⟨cur,e⟩:=h.ty A hA b hb;exact hp.no e h1
 refine⟨k.blk h.blk (hp.no h.blk h2),h.tg.kpM k (hn _ si),h.last.kpM k (hn _ si),h.st.kpM k (hn _ si),h.en.kpM k (hn _ si),fun A hA b hb=>?_⟩;obtain⟨cur,e⟩:=h.ty A hA b hb;exact⟨cur,(k.block b (Array.getElem?_eq_some_iff.1 e).1 (hn A hA b hb)).trans e⟩
def SmT (rn:Bool)(G:List Ins)(g:Nat)(m:Ma)(strt:List Sp)(w:World)(a:Nat)(ts:List Int):Prop:=∃s,SmAt w a s/\SumOf m g (ts.map (clsF rn G strt)) s
theorem all_of {rn:Bool}{ts:List Int}(h:∀x∈ts,symV rn x=true):ts.all (symV rn)=true:=List.all_eq_true.2 h
theorem NewOk.mo_ {w0:World}{rn:Bool}{caps:Int}{G:List Ins}{g:Nat}{m:Ma}{strt:List Sp}{R:List St}(h:NewOk w0 rn caps G g m strt R):Mo w0 g (fun x=>symV rn x=true) (SmT rn G g m strt) where
 ext:=fun⟨s,h1,h2⟩ x=>⟨s,h1.ext x,h2⟩
 kp:=fun⟨s,h1,h2⟩ k q=>⟨s,h1.kpT k q de de,h2⟩
 join:=fun w x a b ta tb ⟨sa,ha,ka⟩ ⟨sb,hb,kb⟩ h1 h2 hl=>((h.ext x).join ha ka hb kb (all_of h1) (all_of h2) hl).mono (fun e w' ⟨gs,s,e1,h3,h4,h5⟩=>⟨gs,e1,⟨s,h3,h4⟩,h5⟩)
 of:=fun w x A c ts hi h1 hl=>((h.ext x).of hi (all_of h1) hl).mono (fun e w' ⟨gs,s,e1,h3,h4,h5⟩=>⟨gs,e1,⟨s,h3,h4⟩,h5⟩)
 emp:=fun w x=>(empty_any w g m _ strt (h.ext x).at_).mono (fun e w' ⟨gs,s,e1,h3,h4,h5⟩=>⟨gs,e1,⟨s,h3,h4⟩,h5⟩)
def RetW3 (w:World)(e:Ending)(w':World):Prop:=Ext w w'/\∃(g:Nat) (m:Ma) (strt:List Sp) (R:List St),e=.returned (.pointer (some ⟨g,0,none⟩))/\NewOk w' false 0 exG3 g m strt R
theorem ex3_new1 (w:World)(A:Option Addr)(c:Nat)(h1 h2:Hin)(a:InS 97 h1)(b:InS 98 h2)(hp:PL w A c [h1,h2,inD]) :
 Calls Tryz.prog 20 #[.agg #[.slice A 3 c,.int .i64 0,.bool false]] w (RetM1 exG3 w):=
 (new_any2 w A c [h1,h2,inD] false 0 hp (ex3_small a b)).mono (fun e w' h=>by
  rw[ex3_ins a b] at h;exact RetMN.one h ex3_new)
theorem rmachine_any (w:World)(kb:Nat)(T:Nat)(cs:Array Value)(hkb:Blk w kb T cs)(h1:LfAt w kb 0 97)(h2:LfAt w kb 8 98) :
 Calls Tryz.prog 58 #[.agg (patC kb)] w (RetW3 w):=by
 have X0:=Ext.alloc w (.cells (patC kb) 28);have B0:=Blk.new w 28 (patC kb);have HC:=fun(w':World) (y':Ext w w')=>lh (compileC_any w' kb 97 98 T cs (hkb.ext y') (h1.ext y') (h2.ext y'));clear hkb h1 h2;unfold patC at X0 B0 HC ⊢;go_enter Tryz.func58,Tryz.ntmps58
 go_upto_region 1 with fail
 obtain⟨g1,hg1⟩:∃g,g=w.heap.size:=⟨_,rfl⟩
 rw[<-hg1] at B0 ⊢;clear hg1;generalize w.alloc (.cells #[.int .i64 2,.slice none 0 0,.slice (some ⟨kb,0,none⟩) 2 2,.int .i64 0,.int .i64 0,.int .i64 0,.int .i64 0,.bool false,.int .i64 0,.bool false] 28)=wa at *;have z0:wa.cell? ⟨g1,0,none⟩=some (.int .i64 2):=B0.cell 0;have z1:wa.cell? ⟨g1,1,none⟩=some (.slice none 0 0):=B0.cell 1;have z2:wa.cell? ⟨g1,2,none⟩=some (.slice (some ⟨kb,0,none⟩) 2 2):=B0.cell 2;have z3:wa.cell? ⟨g1,3,none⟩=some (.int .i64 0):=B0.cell 3;have z4:wa.cell? ⟨g1,4,none⟩=some (.int .i64 0):=B0.cell 4;have z5:wa.cell? ⟨g1,5,none⟩=some (.int .i64 0):=B0.cell 5;have z6:wa.cell? ⟨g1,6,none⟩=some (.int .i64 0):=B0.cell 6;have z7:wa.cell? ⟨g1,7,none⟩=some (.bool false):=B0.cell 7;have z8:wa.cell? ⟨g1,8,none⟩=some (.int .i64 0):=B0.cell 8;have z9:wa.cell? ⟨g1,9,none⟩=some (.bool false):=B0.cell 9;have HXa:=lh X0;clear X0;have HV:=HC wa HXa.out
 go_upto_region 2 with(go_at_call 102;refine HV.out.mono ?_;rintro e wb ⟨A,c,hs,rfl,⟨i1,i2,hi1,hi2,rfl⟩,hpl,xb⟩;have HPL:=lh hpl;have HXb:=lh xb)
 have X2:=Ext.alloc wb (.cells #[.slice A 3 c,.int .i64 0,.bool false] 48);have HX2:=lh X2;have HN:=lh (ex3_new1 _ A c i1 i2 hi1 hi2 (HPL.out.ext X2));clear X2
 go_upto_region 5 with(go_at_call 20;refine HN.out.mono ?_;rintro e wd ⟨xd,g,m,strt,R,rfl,hn⟩;have HXd:=lh xd;have HNN:=lh hn;clear xd hn)
 go_wp2
 go_ret
 exact⟨HXa.out.trans (HXb.out.trans (HX2.out.trans HXd.out)),g,m,strt,R,rfl,HNN.out⟩
theorem ndP_blk {w:World}{kb T sb o:Nat}{x:Int}{cs:Array Value}(h:Blk w kb T cs)(hc:∀i (_:i<8),cs[o+i]? = (ndS sb x).cs[i]?):NdP w kb o (ndS sb x):=fun i hi=>by
 have h8:i<8:=by simpa[Nd.cs] using hi
 rw[h.cell (o+i)];exact(hc i h8).trans (List.getElem?_eq_getElem hi)
theorem word_any (w:World):Calls Tryz.prog 43 #[] w (RetW3 w):=by
 have Y1:=Ext.alloc w (.cells #[.int .i64 97,.int .i64 97] 38);have S1:=Blk.new w 38 #[.int .i64 97,.int .i64 97];obtain⟨w1,hw1⟩:∃w1,w1=w.alloc (.cells #[.int .i64 97,.int .i64 97] 38):=⟨_,rfl⟩;obtain⟨s1,hs1⟩:∃s,s=w.heap.size:=⟨_,rfl⟩
 rw[<-hw1] at Y1 S1
 rw[<-hs1] at S1;have hz1:w1.heap.size=w.heap.size+1:=by rw[hw1];simp
 have Y2:=Ext.alloc w1 (.cells #[.int .i64 1,.slice (some ⟨s1,0,none⟩) 1 1,.slice none 0 0,.int .i64 0,.int .i64 0,.int .i64 0,.int .i64 0,.bool false] 26);have P1:=Blk.new w1 26 #[.int .i64 1,.slice (some ⟨s1,0,none⟩) 1 1,.slice none 0 0,.int .i64 0,.int .i64 0,.int .i64 0,.int .i64 0,.bool false];rw[hz1] at P1;go_enter Tryz.func43,Tryz.ntmps43
 go_upto_region 2 with fail
 rw[<-hw1,<-hs1]
 rw[<-hs1] at P1;obtain⟨p1,hp1⟩:∃s,s=s1+1:=⟨_,rfl⟩
 rw[<-hp1] at P1 ⊢;clear hp1 hz1 hs1 hw1;generalize w1.alloc (.cells #[.int .i64 1,.slice (some ⟨s1,0,none⟩) 1 1,.slice none 0 0,.int .i64 0,.int .i64 0,.int .i64 0,.int .i64 0,.bool false] 26)=w2 at *;replace S1:=S1.ext Y2;replace Y2:=Y1.trans Y2;clear Y1;clear w1;have Y3:=Ext.alloc w2 (.cells #[.int .i64 98,.int .i64 98] 38);have S2:=Blk.new w2 38 #[.int .i64 98,.int .i64 98];obtain⟨w3,hw3⟩:∃w1,w1=w2.alloc (.cells #[.int .i64 98,.int .i64 98] 38):=⟨_,rfl⟩;obtain⟨s2,hs2⟩:∃s,s=w2.heap.size:=⟨_,rfl⟩
 rw[<-hw3] at Y3 S2
 rw[<-hs2] at S2;have hz3:w3.heap.size=s2+1:=by rw[hw3,hs2];simp
 have Y4:=Ext.alloc w3 (.cells #[.int .i64 1,.slice (some ⟨s2,0,none⟩) 1 1,.slice none 0 0,.int .i64 0,.int .i64 0,.int .i64 0,.int .i64 0,.bool false] 26);have P2:=Blk.new w3 26 #[.int .i64 1,.slice (some ⟨s2,0,none⟩) 1 1,.slice none 0 0,.int .i64 0,.int .i64 0,.int .i64 0,.int .i64 0,.bool false];rw[hz3] at P2
 go_upto_region 3 with fail
 rw[<-hw3,<-hs2];obtain⟨p2,hp2⟩:∃s,s=s2+1:=⟨_,rfl⟩
 rw[<-hp2] at P2 ⊢;clear hp2 hz3 hs2 hw3;generalize w3.alloc (.cells #[.int .i64 1,.slice (some ⟨s2,0,none⟩) 1 1,.slice none 0 0,.int .i64 0,.int .i64 0,.int .i64 0,.int .i64 0,.bool false] 26)=w4 at *;replace S2:=S2.ext Y4;replace Y4:=Y3.trans Y4;clear Y3;clear w3;have S1':=S1.ext Y4;have P1':=P1.ext Y4;have Y5:=lh (Y2.trans Y4);clear S1 P1 Y2 Y4;clear w2;have a0:=P1'.cell 0;have a1:=P1'.cell 1;have a2:=P1'.cell 2;have a3:=P1'.cell 3;have a4:=P1'.cell 4;have a5:=P1'.cell 5;have a6:=P1'.cell 6;have a7:=P1'.cell 7;have b0:=P2.cell 0;have b1:=P2.cell 1;have b2:=P2.cell 2;have b3:=P2.cell 3;have b4:=P2.cell 4;have b5:=P2.cell 5;have b6:=P2.cell 6;have b7:=P2.cell 7;simp at a0 a1 a2 a3 a4 a5 a6 a7 b0 b1 b2 b3 b4 b5 b6 b7;have Y6:=Ext.alloc w4 (.cells #[.int .i64 1,.slice (some ⟨s1,0,none⟩) 1 1,.slice none 0 0,.int .i64 0,.int .i64 0,.int .i64 0,.int .i64 0,.bool false,.int .i64 1,.slice (some ⟨s2,0,none⟩) 1 1,.slice none 0 0,.int .i64 0,.int .i64 0,.int .i64 0,.int .i64 0,.bool false] 26);have K1:=Blk.new w4 26 #[.int .i64 1,.slice (some ⟨s1,0,none⟩) 1 1,.slice none 0 0,.int .i64 0,.int .i64 0,.int .i64 0,.int .i64 0,.bool false,.int .i64 1,.slice (some ⟨s2,0,none⟩) 1 1,.slice none 0 0,.int .i64 0,.int .i64 0,.int .i64 0,.int .i64 0,.bool false];have L1:LfAt _ w4.heap.size 0 97:=⟨s1,ndP_blk K1 (fun i hi=>by
  have:i=0\/i=1\/i=2\/i=3\/i=4\/i=5\/i=6\/i=7:=om;rcases this with rfl|rfl|rfl|rfl|rfl|rfl|rfl|rfl<;>rfl),S1'.ext Y6,om,om⟩
 have L2:LfAt _ w4.heap.size 8 98:=⟨s2,ndP_blk K1 (fun i hi=>by
  have:i=0\/i=1\/i=2\/i=3\/i=4\/i=5\/i=6\/i=7:=om;rcases this with rfl|rfl|rfl|rfl|rfl|rfl|rfl|rfl<;>rfl),S2.ext Y6,om,om⟩
 have HM:=lh (rmachine_any _ w4.heap.size _ _ K1 L1 L2);have HY6:=lh Y6;clear Y6 K1 L1 L2;unfold patC at HM
 go_wp2_with (go_at_call 58;refine HM.out.mono ?_;rintro e w5 ⟨x5,g,m,strt,R,rfl,hn⟩;have HX5:=lh x5;have HN:=lh hn;clear x5 hn)
 go_ret
 exact⟨Y5.out.trans (HY6.out.trans HX5.out),g,m,strt,R,rfl,HN.out⟩
@[irreducible] def zero32:Array Value:=(List.replicate 32 (Value.int .i64 0)).toArray
theorem mkI32 (W:World):(Instr.makeSlice 22 (.int .i64 32) (.int .i64 32)).run Tryz.prog W=.ok (.slice (some ⟨W.heap.size,0,none⟩) 32 32) (W.alloc (.cells zero32 3)):=by
 unfold zero32;exact mkI 32 om W
theorem zero32_il (w:World):IL (w.alloc (.cells zero32 3)) (some ⟨w.heap.size,0,none⟩) 32 ex3Z:=by
 unfold zero32;exact zero_il w 32 om
theorem ex3_okz:∀x∈ex3Z,symV false x=true:=fun x hx=>by rw[List.eq_of_mem_replicate hx];rfl
theorem ok_one {a:Int}(h:symV false a=true):∀x∈[a],symV false x=true:=fun x hx=>by rw[List.mem_singleton.1 hx];exact h
theorem il_one (w:World)(a:Int)(h:I64 a):IL (w.alloc (.cells #[.int .i64 a] 3)) (some ⟨w.heap.size,0,none⟩) 1 [a]:=
 IL.of_blk (xs:=[a]) (T:=3) (Blk.new w 3 #[.int .i64 a]) (fun x hx=>by rw[List.mem_singleton.1 hx];exact h) (by unfold maxLen;simp)
theorem RetEd.ok_ {S:World->Nat->List Int->Prop}{ok:Int->Prop}{g:Nat}{o:Option Sh}{a d:Int}{l:List Int}{w w':World}{e:Ending}(h:RetEd S ok g o a d l w e w')(h0:editErr (txtO o).length a d l=0):RetRp S ok g (edS o a.toNat d.toNat l).1 (edS o a.toNat d.toNat l).2 w e w':=by
 rcases h with⟨h1,_⟩|⟨_,h2⟩
 ·exact absurd h0 h1
 ·exact h2
theorem rlives_any (w:World):Calls Tryz.prog 52 #[] w (RetV (.bool true) w):=by
 have HW:=lh (word_any w);have hmk:=mkI32;go_enter Tryz.func52,Tryz.ntmps52
 go_upto_region 2 with(go_at_call 43;refine HW.out.mono ?_;rintro e w1 ⟨x1,g,m,strt,R,rfl,hn⟩;have HX1:=lh x1;have HN:=lh hn;clear x1 hn)
 have HM:=HN.out.mo_;have EZ:=Ext.alloc w1 (.cells zero32 3);have HNEW:=lh (onew_any HM (w1.alloc (.cells zero32 3)) EZ _ _ ex3Z (zero32_il w1) ex3_okz (by simp[ex3Z]));have HEZ:=lh EZ;clear EZ;rw[ex3_t0] at HNEW;have e32:ex3Z.length=32:=by rfl
 rw[e32] at HNEW;clear e32
 go_upto_region 5 with(go_at_call 45;refine HNEW.out.mono ?_;rintro e w2 ⟨gr,rfl,hr,x2⟩;have HR:=lh hr;have HX2:=lh (HEZ.out.trans x2);clear hr x2)
 clear HNEW HEZ hmk;have E1:=Ext.alloc w2 (.cells #[.int .i64 97] 3);have HED:=lh ((oedit_any HM (w2.alloc (.cells #[.int .i64 97] 3)) (HX2.out.trans E1) gr 1 (some (.lf ex3Z)) (HR.out.ext HM E1) ex3_av0 (by rw[ex3_len0];omega) 5 0 (some ⟨w2.heap.size,0,none⟩) 1 [97] (il_one w2 97 (by unfold I64;omega)) (ok_one (by rfl)) (by unfold I64;omega) si).mono (fun e w' h=>RetEd.ok_ h (by rw[ex3_len0];exact ex3_e1)));have HE1:=lh E1;clear E1
 go_upto_region 7 with fail
 go_upto_region 8 with(go_at_call 50;refine HED.out.mono ?_;rintro e w3 ⟨gs,rfl,hr,x3⟩;have HS:=lh hr;have HX3:=lh (HE1.out.trans x3);clear hr x3)
 clear HED HE1;replace HS:Hid (RpAt (SmT false exG3 g m strt) (fun x=>symV false x=true) w3 gs g ex3S.1 ex3S.2):=HS;have E1:=Ext.alloc w3 (.cells #[.int .i64 98] 3);have HED:=lh ((oedit_any HM (w3.alloc (.cells #[.int .i64 98] 3)) (HX2.out.trans (HX3.out.trans E1)) gs ex3S.2 ex3S.1 (HS.out.ext HM E1) ex3_av1 (by rw[ex3_len1];omega) 6 0 (some ⟨w3.heap.size,0,none⟩) 1 [98] (il_one w3 98 (by unfold I64;omega)) (ok_one (by rfl)) (by unfold I64;omega) si).mono (fun e w' h=>RetEd.ok_ h (by rw[ex3_len1];exact ex3_e2)));have HE1:=lh E1;clear E1
 go_upto_region 10 with fail
 go_upto_region 11 with(go_at_call 50;refine HED.out.mono ?_;rintro e w4 ⟨gt,rfl,hr,x4⟩;have HT:=lh hr;have HX4:=lh (HE1.out.trans x4);clear hr x4)
 clear HED HE1;replace HT:Hid (RpAt (SmT false exG3 g m strt) (fun x=>symV false x=true) w4 gt g (edS ex3S.1 6 0 [98]).1 (edS ex3S.1 6 0 [98]).2):=HT;have HXA:=lh (HX2.out.trans (HX3.out.trans HX4.out));have HSUM:=lh (osum_any HM w4 HXA.out gt _ _ HT.out);rw[ex3_txt2] at HSUM
 go_upto_region 13 with fail
 go_upto_region 14 with(first|(go_at_call 59;refine HSUM.out.mono ?_;rintro e w5 ⟨ga,rfl,⟨sa,hsa,ksa⟩,x5⟩;have HX5:=lh x5;have HF:=lh ((HN.out.ext (HXA.out.trans x5)).found hsa ksa ex3_sym (by rw[ex3_len2];omega));clear hsa ksa x5)|(go_at_call 28;refine HF.out.mono ?_;rintro e w6 ⟨F,fc,rfl,hf,x6⟩;have HFF:=lh hf;have HX6:=lh x6;clear hf x6))
 rw[ex3_found];rw[ex3_found] at HFF;have HL1:=lh (oheight_any w6 gr g _ _ (HR.out.ext HM (HX3.out.trans (HX4.out.trans (HX5.out.trans HX6.out)))));have HL2:=lh (omade_any w6 gr g _ _ (HR.out.ext HM (HX3.out.trans (HX4.out.trans (HX5.out.trans HX6.out)))));have HL3:=lh (olen_any w6 gs g _ _ (HS.out.ext HM (HX4.out.trans (HX5.out.trans HX6.out))));have HL4:=lh (oheight_any w6 gs g _ _ (HS.out.ext HM (HX4.out.trans (HX5.out.trans HX6.out))));rw[ex3_hgt1] at HL4;rw[show hgtO (some (Sh.lf ex3Z))=1 from rfl] at HL1;rw[ex3_len1] at HL3;obtain⟨b,o,rfl,hcl⟩:=HFF.out.at_ si;have c0:=hcl 0 si;simp only[List.getElem_cons_zero,Nat.zero_mul,Nat.add_zero] at c0;obtain⟨c0,c1⟩:=c0;clear hcl;have HXX:=lh (HX1.out.trans (HXA.out.trans (HX5.out.trans HX6.out)));clear HFF HSUM HM HW;clear HN HX1 HX2 HX3 HX4 HX5 HX6 HXA HR HS HT
 go_wp2_with (go_at_call 48;refine HL1.out.mono ?_;rintro e w7 ⟨rfl,rfl⟩)
 go_wp2_with (go_at_call 46;refine HL2.out.mono ?_;rintro e w7 ⟨rfl,rfl⟩)
 go_wp2_with (go_at_call 51;refine HL3.out.mono ?_;rintro e w7 ⟨rfl,rfl⟩)
 go_wp2_with (go_at_call 48;refine HL4.out.mono ?_;rintro e w7 ⟨rfl,rfl⟩)
 have HEQ:∀W,(Op.equalIn 10000 82 (.agg #[.int .i64 5,.int .i64 7]) (.agg #[.int .i64 5,.int .i64 7])).run Tryz.prog W=.ok true W:=fun W=>eqArr2 5 7 5 7 W
 go_wp2
 simp only[HEQ,Result.andThen_ok]
 go_wp2
 go_ret
 exact⟨rfl,HXX.out⟩
theorem flatQ_get:∀(es:List Oq) (j:Nat) (h:j<es.length),(flatQ es)[j*3]? = some (.int .i64 es[j].e.at_)/\(flatQ es)[j*3+1]? = some (.int .i64 es[j].e.del)/\(flatQ es)[j*3+2]? = some (.slice es[j].A es[j].e.ins.length es[j].c)
 | [],j,h=>absurd h si
 | e::es,0,_=>⟨rfl,rfl,rfl⟩
 | e::es,j+1,h=>by
  have ih:=flatQ_get es j (by simpa using h);have e1:(j+1)*3=j*3+3:=om;have e2:flatQ (e::es)=.int .i64 e.e.at_::.int .i64 e.e.del::.slice e.A e.e.ins.length e.c::flatQ es:=rfl;rw[e1,e2];exact ih
theorem edit_cells {w:World}{A:Option Addr}{es:List Oq}(h:CellsAt w A (flatQ es)){j:Nat}(hj:j<es.length):∃b o,A=some ⟨b,o,none⟩/\w.cell? ⟨b,o+j*3,none⟩=some (.int .i64 es[j].e.at_)/\w.cell? ⟨b,o+j*3+1,none⟩=some (.int .i64 es[j].e.del)/\w.cell? ⟨b,o+j*3+2,none⟩=some (.slice es[j].A es[j].e.ins.length es[j].c):=by
 have hl:=flatQ_len es;obtain⟨b,o,rfl,hc⟩:=h (by intro e;rw[e] at hl;simp at hl;omega);obtain⟨g0,g1,g2⟩:=flatQ_get es j hj;have one:∀(i:Nat) (v:Value),(flatQ es)[i]? = some v->w.cell? ⟨b,o+i,none⟩=some v:=fun i v hv=>by
  obtain⟨hi,e⟩:=List.getElem?_eq_some_iff.1 hv
  rw[<-e];exact hc i hi
 exact⟨b,o,rfl,one _ _ g0,by rw[Nat.add_assoc];exact one _ _ g1,by rw[Nat.add_assoc];exact one _ _ g2⟩
structure MoX (w0:World)(g:Nat)(ok:Int->Prop)(S:World->Nat->List Int->Prop):Prop where
 mo:Mo w0 g ok S
 ok:∀x,0<=x->x<=200->ok x
 eq:∀(w:World),Ext w0 w->∀(a b:Nat) (ts:List Int),S w a ts->S w b ts->Calls Tryz.prog 33 #[.pointer (some ⟨a,0,none⟩),.pointer (some ⟨b,0,none⟩)] w (RetV (.bool true) w)
def RetMo (w:World)(e:Ending)(w':World):Prop:=Ext w w'/\(e=.returned (.pointer none)\/∃(g:Nat) (ok:Int->Prop) (S:World->Nat->List Int->Prop),e=.returned (.pointer (some ⟨g,0,none⟩))/\MoX w' g ok S)
theorem RetEd.ok4 {S:World->Nat->List Int->Prop}{ok:Int->Prop}{g:Nat}{o:Option Sh}{a d:Int}{l:List Int}{w:World}{e:Ending}{w':World}(h:RetEd S ok g o a d l w e w')(he:editErr (txtO o).length a d l=0):RetRp S ok g (edS o a.toNat d.toNat l).1 (edS o a.toNat d.toNat l).2 w e w':=by
 rcases h with h|h
 ·exact absurd he h.1
 ·exact h.2
theorem RetEd.bad4 {S:World->Nat->List Int->Prop}{ok:Int->Prop}{g:Nat}{o:Option Sh}{a d:Int}{l:List Int}{w:World}{e:Ending}{w':World}(h:RetEd S ok g o a d l w e w')(he:editErr (txtO o).length a d l≠0):e=.returned (.tuple #[.pointer none,.int .i64 (editErr (txtO o).length a d l)])/\Ext w w':=by
 rcases h with h|h
 ·exact h.2
 ·exact absurd h.1 he
structure RpOk (S:World->Nat->List Int->Prop)(ok:Int->Prop)(w:World)(gr g:Nat)(o:Option Sh)(k:Nat):Prop where
 rp:RpAt S ok w gr g o k
 av:AvO o
 le:(txtO o).length<=65536
 rng:∀x∈txtO o,0<=x/\x<=200
theorem RpOk.ext {w0:World}{g:Nat}{ok:Int->Prop}{S:World->Nat->List Int->Prop}(M:Mo w0 g ok S){w w':World}{gr k:Nat}{o:Option Sh}(h:RpOk S ok w gr g o k)(x:Ext w w'):RpOk S ok w' gr g o k:=⟨h.rp.ext M x,h.av,h.le,h.rng⟩
theorem edS_rng {o:Option Sh}{a d:Int}{l:List Int}(av:AvO o)(hr:∀x∈txtO o,0<=x/\x<=200)(hl:∀x∈l,0<=x/\x<=200)(he:editErr (txtO o).length a d l=0) :
 AvO (edS o a.toNat d.toNat l).1/\(txtO (edS o a.toNat d.toNat l).1).length<=65536/\(∀x∈txtO (edS o a.toNat d.toNat l).1,0<=x/\x<=200)/\txtO (edS o a.toNat d.toNat l).1=(txtO o).take a.toNat++l++(txtO o).drop (a.toNat+d.toNat):=by
 obtain⟨f1,f2,f3,f4,f5⟩:=editErr_ok he;obtain⟨s1,s2,s3⟩:=edS_ok (t:=o) (k:=a.toNat) (d:=d.toNat) l av om;refine⟨s1,by rw[s2];simp only[List.length_append,List.length_take,List.length_drop];omega,fun x hx=>?_,s2⟩;rw[s2] at hx;rcases List.mem_append.1 hx with hx|hx
 ·rcases List.mem_append.1 hx with hx|hx
  ·exact hr x (List.mem_of_mem_take hx)
  ·exact hl x hx
 ·exact hr x (List.mem_of_mem_drop hx)
def RetMc (w:World)(e:Ending)(w':World):Prop:=Ext w w'/\(e=.returned (.pointer none)\/∃(g:Nat) (m:Ma) (strt:List Sp) (R:List St) (G:List Ins) (rn:Bool) (caps:Int),e=.returned (.pointer (some ⟨g,0,none⟩))/\NewOk w' rn caps G g m strt R)
theorem rmachine_gen (S:Nat->Prop)(w:World)(n:Nd)(gr:Int)(rn:Bool)(ht:TreeAt 3 S w 6 n.val)(hgr:I64 gr) :
 Calls Tryz.prog 58 #[.agg (patN n gr rn)] w (RetMc w):=by
 have X0:=Ext.alloc w (.cells (patN n gr rn) 28);have B0:=Blk.new w 28 (patN n gr rn);have HC:=fun(w':World) (y':Ext w w')=>lh (hcompile_any 3 6 S om om de om w' n gr rn (ht.ext y') hgr);clear ht hgr;unfold patN at X0 B0 HC ⊢;go_enter Tryz.func58,Tryz.ntmps58
 go_upto_region 1 with fail
 obtain⟨g1,hg1⟩:∃g,g=w.heap.size:=⟨_,rfl⟩
 rw[<-hg1] at B0 ⊢;clear hg1;generalize w.alloc (.cells #[.int .i64 n.op,.slice n.A n.l.length n.c,.slice n.K n.ks.length n.kc,.int .i64 n.mn,.int .i64 n.mx,.int .i64 n.md,.int .i64 n.n,.bool n.neg,.int .i64 gr,.bool rn] 28)=wa at *;have z0:=B0.cell 0;have z1:=B0.cell 1;have z2:=B0.cell 2;have z3:=B0.cell 3;have z4:=B0.cell 4;have z5:=B0.cell 5;have z6:=B0.cell 6;have z7:=B0.cell 7;have z8:=B0.cell 8;have z9:=B0.cell 9;have HXa:=lh X0;clear X0;have HV:=HC wa HXa.out
 go_upto_region 2 with(go_at_call 102;refine HV.out.mono ?_;rintro e wb ⟨A,c,hs,caps,rn',k,rfl,hgp,hcaps,xb⟩;have HGP:=lh hgp;have HXb:=lh xb;clear hgp xb)
 clear z0 z1 z2 z3 z4 z5 z6 z7 z8 z9 B0 HV HC;by_cases hk:k=0
 ·subst hk;have X2:=Ext.alloc wb (.cells #[.slice A hs.length c,.int .i64 caps,.bool rn'] 48);have HX2:=lh X2;have HN:=lh (new_any2 _ A c hs rn' caps (HGP.out.ext X2).pl (HGP.out.gd rim0.1 rim0.2).sm);clear X2
  go_upto_region 5 with(go_at_call 20;refine HN.out.mono ?_;rintro e wd ⟨xd,h⟩;have HXd:=lh xd;clear xd;rcases h with⟨h1,rfl⟩|⟨h1,g,m,strt,R,rfl,_,hn⟩)
  ·have h1':(newE rn' caps (insL hs) != 0)=true:=by simpa using h1
   clear h1;generalize newE rn' caps (insL hs)=ne at *
   go_wp2_with fail
   go_ret
   exact⟨HXa.out.trans (HXb.out.trans (HX2.out.trans HXd.out)),.inl rfl⟩
  ·have HNN:=lh hn;clear hn h1
   go_wp2_with fail
   go_ret
   exact⟨HXa.out.trans (HXb.out.trans (HX2.out.trans HXd.out)),.inr ⟨g,m,strt,R,_,_,_,rfl,HNN.out⟩⟩
 ·have hk1:(k != 0)=true:=by simp[hk]
  have X2:=Ext.alloc wb (.cells #[.slice A hs.length c,.int .i64 caps,.bool rn'] 48)
  go_wp2_with fail
  go_ret
  exact⟨HXa.out.trans (HXb.out.trans X2),.inl rfl⟩
theorem symV_small {rn:Bool}{x:Int}(h0:0<=x)(h1:x<=200):symV rn x=true:=by
 unfold symV
 cases rn<;>simp<;>omega
theorem NewOk.mox {w0:World}{rn:Bool}{caps:Int}{G:List Ins}{g:Nat}{m:Ma}{strt:List Sp}{R:List St}(h:NewOk w0 rn caps G g m strt R):MoX w0 g (fun x=>symV rn x=true) (SmT rn G g m strt) where
 mo:=h.mo_
 ok:=fun _ h0 h1=>symV_small h0 h1
 eq:=fun w _ a b ts ⟨sa,ha,ka⟩ ⟨sb,hb,kb⟩=>by
  have h:=equalS_any w a b sa sb ha hb (by rw[ka.mch,kb.mch]);rw[smEq_of ka kb] at h;exact h
theorem rmo_any (S:Nat->Prop)(w:World)(n:Nd)(gr:Int)(rn:Bool)(ht:TreeAt 3 S w 6 n.val)(hgr:I64 gr) :
 Calls Tryz.prog 58 #[.agg (patN n gr rn)] w (RetMo w):=
 (rmachine_gen S w n gr rn ht hgr).mono (fun e w' h=>by
  rcases h with⟨x,h|⟨g,m,strt,R,G,rn',caps,h1,h2⟩⟩
  ·exact⟨x,.inl h⟩
  ·exact⟨x,.inr ⟨g,_,_,h1,h2.mox⟩⟩)
end
end Go.Proofs.YtmocoldobnimfaaGreat
