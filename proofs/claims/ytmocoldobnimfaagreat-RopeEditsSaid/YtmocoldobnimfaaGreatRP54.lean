/- Texts of this proof: M8 M9 RB RG RK RL RM RH. -/
import Derived.Test.YtmocoldobnimfaaGreatRP31
import Derived.Test.YtmocoldobnimfaaGreatRP43
import Derived.Test.YtmocoldobnimfaaGreatRP53
set_option linter.all false
set_option maxRecDepth 100000
set_option maxHeartbeats 16000000
namespace Go.Proofs.YtmocoldobnimfaaGreat
section
open Go.RowKit
attribute [local go_sem ↓] Go.wp_at_zero Go.wp_at_succ
theorem ex3_ins {h1 h2:Hin}(a:InS 97 h1)(b:InS 98 h2):insL [h1,h2,inD]=exG3:=by
 obtain⟨a1,a2,a3,a4,a5⟩:=a;obtain⟨b1,b2,b3,b4,b5⟩:=b;simp[insL,exG3,inD,Hin.ins,a1,a2,a3,a4,a5,b1,b2,b3,b4,b5]
theorem ex3_small {h1 h2:Hin}(a:InS 97 h1)(b:InS 98 h2):SmallG (insL [h1,h2,inD]):=by
 refine smallG_of (E:=rimE) (by simp[rimE]) (by simp[rimE]) si (fun i hi=>?_);simp only[List.mem_cons,List.not_mem_nil,or_false] at hi;rcases hi with rfl|rfl|rfl
 ·rw[a.2.2.2.2];simp[SetE,rimE]
 ·rw[b.2.2.2.2];simp[SetE,rimE]
 ·simp[SetE,inD]
theorem KL.kpM {w w':World}{A:Option Addr}{c:Nat}{xs:List Int}{p:Nat→Prop}(h:KL w A c xs)(k:KpP p w w')(hn:∀b,A.map (·.block)=some b→¬p b):KL w' A c xs:=by
 refine⟨h.le,h.cap,h.rng,fun h0=>?_⟩;obtain⟨b,o,rfl,hc⟩:=h.at_ h0;refine⟨b,o,rfl,fun i hi=>?_⟩;have h1:=hc i hi;have hb:w'.heap[b]? = w.heap[b]?:=k.block b (World.block_lt_of_cell? _ _ h1) (hn b rfl)
 simpa[World.cell?,hb] using h1
theorem SmAt.kpT {T:Nat}{w w':World}{g:Nat}{s:Sm}{p:Nat→Prop}(h:SmAt w g s)(k:KpP p w w')(hp:TyQ T w p)(h1:21≠T)(h2:154≠T):SmAt w' g s:=by
 have hn:∀A∈[s.tA,s.lA,s.sA,s.eA],∀b,A.map (·.block)=some b→¬p b:=fun A hA b hb=>by
  obtain⟨cur,e⟩:=h.ty A hA b hb;exact hp.no e h1
 refine⟨k.blk h.blk (hp.no h.blk h2),h.tg.kpM k (hn _ si),h.last.kpM k (hn _ si),h.st.kpM k (hn _ si),h.en.kpM k (hn _ si),fun A hA b hb=>?_⟩;obtain⟨cur,e⟩:=h.ty A hA b hb;exact⟨cur,(k.block b (Array.getElem?_eq_some_iff.1 e).1 (hn A hA b hb)).trans e⟩
def SmT (rn:Bool)(G:List Ins)(g:Nat)(m:Ma)(strt:List Sp)(w:World)(a:Nat)(ts:List Int):Prop:=∃s,SmAt w a s∧SumOf m g (ts.map (clsF rn G strt)) s
theorem all_of {rn:Bool}{ts:List Int}(h:∀x∈ts,symV rn x=true):ts.all (symV rn)=true:=List.all_eq_true.2 h
theorem NewOk.mo_ {w0:World}{rn:Bool}{caps:Int}{G:List Ins}{g:Nat}{m:Ma}{strt:List Sp}{R:List St}(h:NewOk w0 rn caps G g m strt R):Mo w0 g (fun x=>symV rn x=true) (SmT rn G g m strt) where
 ext:=fun⟨s,h1,h2⟩ x=>⟨s,h1.ext x,h2⟩
 kp:=fun⟨s,h1,h2⟩ k q=>⟨s,h1.kpT k q de de,h2⟩
 join:=fun w x a b ta tb ⟨sa,ha,ka⟩ ⟨sb,hb,kb⟩ h1 h2 hl=>((h.ext x).join ha ka hb kb (all_of h1) (all_of h2) hl).mono (fun e w' ⟨gs,s,e1,h3,h4,h5⟩=>⟨gs,e1,⟨s,h3,h4⟩,h5⟩)
 of:=fun w x A c ts hi h1 hl=>((h.ext x).of hi (all_of h1) hl).mono (fun e w' ⟨gs,s,e1,h3,h4,h5⟩=>⟨gs,e1,⟨s,h3,h4⟩,h5⟩)
 emp:=fun w x=>(empty_any w g m _ strt (h.ext x).at_).mono (fun e w' ⟨gs,s,e1,h3,h4,h5⟩=>⟨gs,e1,⟨s,h3,h4⟩,h5⟩)
def RetW3 (w:World)(e:Ending)(w':World):Prop:=Ext w w'∧∃(g:Nat) (m:Ma) (strt:List Sp) (R:List St),e=.returned (.pointer (some ⟨g,0,none⟩))∧NewOk w' false 0 exG3 g m strt R
theorem ex3_new1 (w:World)(A:Option Addr)(c:Nat)(h1 h2:Hin)(a:InS 97 h1)(b:InS 98 h2)(hp:PL w A c [h1,h2,inD]) :
 Calls Tryz.prog 20 #[.agg #[.slice A 3 c,.int .i64 0,.bool false]] w (RetM1 exG3 w):=
 (new_any2 w A c [h1,h2,inD] false 0 hp (ex3_small a b)).mono (fun e w' h=>by
  rw[ex3_ins a b] at h;exact RetMN.one h ex3_new)
theorem rmachine_any (w:World)(kb:Nat)(T:Nat)(cs:Array Value)(hkb:Blk w kb T cs)(h1:LfAt w kb 0 97)(h2:LfAt w kb 8 98) :
 Calls Tryz.prog 58 #[.agg (patC kb)] w (RetW3 w):=by
 have X0:=Ext.alloc w (.cells (patC kb) 28);have B0:=Blk.new w 28 (patC kb);have HC:=fun(w':World) (y':Ext w w')=>lh (compileC_any w' kb 97 98 T cs (hkb.ext y') (h1.ext y') (h2.ext y'));clear hkb h1 h2;unfold patC at X0 B0 HC ⊢;go_enter Tryz.func58,Tryz.ntmps58
 go_upto_region 1 with fail
 obtain⟨g1,hg1⟩:∃g,g=w.heap.size:=⟨_,rfl⟩
 rw[←hg1] at B0 ⊢;clear hg1;generalize w.alloc (.cells #[.int .i64 2,.slice none 0 0,.slice (some ⟨kb,0,none⟩) 2 2,.int .i64 0,.int .i64 0,.int .i64 0,.int .i64 0,.bool false,.int .i64 0,.bool false] 28)=wa at *;have z0:wa.cell? ⟨g1,0,none⟩=some (.int .i64 2):=B0.cell 0;have z1:wa.cell? ⟨g1,1,none⟩=some (.slice none 0 0):=B0.cell 1;have z2:wa.cell? ⟨g1,2,none⟩=some (.slice (some ⟨kb,0,none⟩) 2 2):=B0.cell 2;have z3:wa.cell? ⟨g1,3,none⟩=some (.int .i64 0):=B0.cell 3;have z4:wa.cell? ⟨g1,4,none⟩=some (.int .i64 0):=B0.cell 4;have z5:wa.cell? ⟨g1,5,none⟩=some (.int .i64 0):=B0.cell 5;have z6:wa.cell? ⟨g1,6,none⟩=some (.int .i64 0):=B0.cell 6;have z7:wa.cell? ⟨g1,7,none⟩=some (.bool false):=B0.cell 7;have z8:wa.cell? ⟨g1,8,none⟩=some (.int .i64 0):=B0.cell 8;have z9:wa.cell? ⟨g1,9,none⟩=some (.bool false):=B0.cell 9;have HXa:=lh X0;clear X0;have HV:=HC wa HXa.out
 go_upto_region 2 with(go_at_call 102;refine HV.out.mono ?_;rintro e wb ⟨A,c,hs,rfl,⟨i1,i2,hi1,hi2,rfl⟩,hpl,xb⟩;have HPL:=lh hpl;have HXb:=lh xb)
 have X2:=Ext.alloc wb (.cells #[.slice A 3 c,.int .i64 0,.bool false] 48);have HX2:=lh X2;have HN:=lh (ex3_new1 _ A c i1 i2 hi1 hi2 (HPL.out.ext X2));clear X2
 go_upto_region 5 with(go_at_call 20;refine HN.out.mono ?_;rintro e wd ⟨xd,g,m,strt,R,rfl,hn⟩;have HXd:=lh xd;have HNN:=lh hn;clear xd hn)
 go_wp2
 go_ret
 exact⟨HXa.out.trans (HXb.out.trans (HX2.out.trans HXd.out)),g,m,strt,R,rfl,HNN.out⟩
end
section
open Go.RowKit
attribute [local go_sem ↓] Go.wp_at_zero Go.wp_at_succ
theorem ndP_blk {w:World}{kb T sb o:Nat}{x:Int}{cs:Array Value}(h:Blk w kb T cs)(hc:∀i (_:i<8),cs[o+i]? = (ndS sb x).cs[i]?):NdP w kb o (ndS sb x):=fun i hi=>by
 have h8:i<8:=by simpa[Nd.cs] using hi
 rw[h.cell (o+i)];exact(hc i h8).trans (List.getElem?_eq_getElem hi)
theorem word_any (w:World):Calls Tryz.prog 43 #[] w (RetW3 w):=by
 have Y1:=Ext.alloc w (.cells #[.int .i64 97,.int .i64 97] 38);have S1:=Blk.new w 38 #[.int .i64 97,.int .i64 97];obtain⟨w1,hw1⟩:∃w1,w1=w.alloc (.cells #[.int .i64 97,.int .i64 97] 38):=⟨_,rfl⟩;obtain⟨s1,hs1⟩:∃s,s=w.heap.size:=⟨_,rfl⟩
 rw[←hw1] at Y1 S1
 rw[←hs1] at S1;have hz1:w1.heap.size=w.heap.size+1:=by rw[hw1];simp
 have Y2:=Ext.alloc w1 (.cells #[.int .i64 1,.slice (some ⟨s1,0,none⟩) 1 1,.slice none 0 0,.int .i64 0,.int .i64 0,.int .i64 0,.int .i64 0,.bool false] 26);have P1:=Blk.new w1 26 #[.int .i64 1,.slice (some ⟨s1,0,none⟩) 1 1,.slice none 0 0,.int .i64 0,.int .i64 0,.int .i64 0,.int .i64 0,.bool false];rw[hz1] at P1;go_enter Tryz.func43,Tryz.ntmps43
 go_upto_region 2 with fail
 rw[←hw1,←hs1]
 rw[←hs1] at P1;obtain⟨p1,hp1⟩:∃s,s=s1+1:=⟨_,rfl⟩
 rw[←hp1] at P1 ⊢;clear hp1 hz1 hs1 hw1;generalize w1.alloc (.cells #[.int .i64 1,.slice (some ⟨s1,0,none⟩) 1 1,.slice none 0 0,.int .i64 0,.int .i64 0,.int .i64 0,.int .i64 0,.bool false] 26)=w2 at *;replace S1:=S1.ext Y2;replace Y2:=Y1.trans Y2;clear Y1;clear w1;have Y3:=Ext.alloc w2 (.cells #[.int .i64 98,.int .i64 98] 38);have S2:=Blk.new w2 38 #[.int .i64 98,.int .i64 98];obtain⟨w3,hw3⟩:∃w1,w1=w2.alloc (.cells #[.int .i64 98,.int .i64 98] 38):=⟨_,rfl⟩;obtain⟨s2,hs2⟩:∃s,s=w2.heap.size:=⟨_,rfl⟩
 rw[←hw3] at Y3 S2
 rw[←hs2] at S2;have hz3:w3.heap.size=s2+1:=by rw[hw3,hs2];simp
 have Y4:=Ext.alloc w3 (.cells #[.int .i64 1,.slice (some ⟨s2,0,none⟩) 1 1,.slice none 0 0,.int .i64 0,.int .i64 0,.int .i64 0,.int .i64 0,.bool false] 26);have P2:=Blk.new w3 26 #[.int .i64 1,.slice (some ⟨s2,0,none⟩) 1 1,.slice none 0 0,.int .i64 0,.int .i64 0,.int .i64 0,.int .i64 0,.bool false];rw[hz3] at P2
 go_upto_region 3 with fail
 rw[←hw3,←hs2];obtain⟨p2,hp2⟩:∃s,s=s2+1:=⟨_,rfl⟩
 rw[←hp2] at P2 ⊢;clear hp2 hz3 hs2 hw3;generalize w3.alloc (.cells #[.int .i64 1,.slice (some ⟨s2,0,none⟩) 1 1,.slice none 0 0,.int .i64 0,.int .i64 0,.int .i64 0,.int .i64 0,.bool false] 26)=w4 at *;replace S2:=S2.ext Y4;replace Y4:=Y3.trans Y4;clear Y3;clear w3;have S1':=S1.ext Y4;have P1':=P1.ext Y4;have Y5:=lh (Y2.trans Y4);clear S1 P1 Y2 Y4;clear w2;have a0:=P1'.cell 0;have a1:=P1'.cell 1;have a2:=P1'.cell 2;have a3:=P1'.cell 3;have a4:=P1'.cell 4;have a5:=P1'.cell 5;have a6:=P1'.cell 6;have a7:=P1'.cell 7;have b0:=P2.cell 0;have b1:=P2.cell 1;have b2:=P2.cell 2;have b3:=P2.cell 3;have b4:=P2.cell 4;have b5:=P2.cell 5;have b6:=P2.cell 6;have b7:=P2.cell 7;simp at a0 a1 a2 a3 a4 a5 a6 a7 b0 b1 b2 b3 b4 b5 b6 b7;have Y6:=Ext.alloc w4 (.cells #[.int .i64 1,.slice (some ⟨s1,0,none⟩) 1 1,.slice none 0 0,.int .i64 0,.int .i64 0,.int .i64 0,.int .i64 0,.bool false,.int .i64 1,.slice (some ⟨s2,0,none⟩) 1 1,.slice none 0 0,.int .i64 0,.int .i64 0,.int .i64 0,.int .i64 0,.bool false] 26);have K1:=Blk.new w4 26 #[.int .i64 1,.slice (some ⟨s1,0,none⟩) 1 1,.slice none 0 0,.int .i64 0,.int .i64 0,.int .i64 0,.int .i64 0,.bool false,.int .i64 1,.slice (some ⟨s2,0,none⟩) 1 1,.slice none 0 0,.int .i64 0,.int .i64 0,.int .i64 0,.int .i64 0,.bool false];have L1:LfAt _ w4.heap.size 0 97:=⟨s1,ndP_blk K1 (fun i hi=>by
  have:i=0∨i=1∨i=2∨i=3∨i=4∨i=5∨i=6∨i=7:=om;rcases this with rfl|rfl|rfl|rfl|rfl|rfl|rfl|rfl<;>rfl),S1'.ext Y6,om,om⟩
 have L2:LfAt _ w4.heap.size 8 98:=⟨s2,ndP_blk K1 (fun i hi=>by
  have:i=0∨i=1∨i=2∨i=3∨i=4∨i=5∨i=6∨i=7:=om;rcases this with rfl|rfl|rfl|rfl|rfl|rfl|rfl|rfl<;>rfl),S2.ext Y6,om,om⟩
 have HM:=lh (rmachine_any _ w4.heap.size _ _ K1 L1 L2);have HY6:=lh Y6;clear Y6 K1 L1 L2;unfold patC at HM
 go_wp2_with (go_at_call 58;refine HM.out.mono ?_;rintro e w5 ⟨x5,g,m,strt,R,rfl,hn⟩;have HX5:=lh x5;have HN:=lh hn;clear x5 hn)
 go_ret
 exact⟨Y5.out.trans (HY6.out.trans HX5.out),g,m,strt,R,rfl,HN.out⟩
end
section
open Go.RowKit
attribute [local go_sem ↓] Go.wp_at_zero Go.wp_at_succ
@[irreducible] def zero32:Array Value:=(List.replicate 32 (Value.int .i64 0)).toArray
theorem mkI32 (W:World):(Instr.makeSlice 22 (.int .i64 32) (.int .i64 32)).run Tryz.prog W=.ok (.slice (some ⟨W.heap.size,0,none⟩) 32 32) (W.alloc (.cells zero32 3)):=by
 unfold zero32;exact mkI 32 om W
theorem zero32_il (w:World):IL (w.alloc (.cells zero32 3)) (some ⟨w.heap.size,0,none⟩) 32 ex3Z:=by
 unfold zero32;exact zero_il w 32 om
theorem ex3_okz:∀x∈ex3Z,symV false x=true:=fun x hx=>by rw[List.eq_of_mem_replicate hx];rfl
theorem ok_one {a:Int}(h:symV false a=true):∀x∈[a],symV false x=true:=fun x hx=>by rw[List.mem_singleton.1 hx];exact h
theorem il_one (w:World)(a:Int)(h:I64 a):IL (w.alloc (.cells #[.int .i64 a] 3)) (some ⟨w.heap.size,0,none⟩) 1 [a]:=
 IL.of_blk (xs:=[a]) (T:=3) (Blk.new w 3 #[.int .i64 a]) (fun x hx=>by rw[List.mem_singleton.1 hx];exact h) (by unfold maxLen;simp)
theorem RetEd.ok_ {S:World→Nat→List Int→Prop}{ok:Int→Prop}{g:Nat}{o:Option Sh}{a d:Int}{l:List Int}{w w':World}{e:Ending}(h:RetEd S ok g o a d l w e w')(h0:editErr (txtO o).length a d l=0):RetRp S ok g (edS o a.toNat d.toNat l).1 (edS o a.toNat d.toNat l).2 w e w':=by
 rcases h with⟨h1,_⟩|⟨_,h2⟩
 ·exact absurd h0 h1
 ·exact h2
theorem rlives_any (w:World):Calls Tryz.prog 52 #[] w (RetV (.bool true) w):=by
 have HW:=lh (word_any w);have hmk:=mkI32;go_enter Tryz.func52,Tryz.ntmps52
 go_upto_region 2 with(go_at_call 43;refine HW.out.mono ?_;rintro e w1 ⟨x1,g,m,strt,R,rfl,hn⟩;have HX1:=lh x1;have HN:=lh hn;clear x1 hn)
 have HM:=HN.out.mo_;have EZ:=Ext.alloc w1 (.cells zero32 3);have HNEW:=lh (onew_any HM (w1.alloc (.cells zero32 3)) EZ _ _ ex3Z (zero32_il w1) ex3_okz (by simp[ex3Z]));have HEZ:=lh EZ;clear EZ;rw[ex3_t0] at HNEW;have e32:ex3Z.length=32:=by rfl
 rw[e32] at HNEW;clear e32
 go_upto_region 5 with(go_at_call 45;refine HNEW.out.mono ?_;rintro e w2 ⟨gr,rfl,hr,x2⟩;have HR:=lh hr;have HX2:=lh (HEZ.out.trans x2);clear hr x2)
 clear HNEW HEZ hmk;have E1:=Ext.alloc w2 (.cells #[.int .i64 97] 3);have HED:=lh ((oedit_any HM (w2.alloc (.cells #[.int .i64 97] 3)) (HX2.out.trans E1) gr 1 (some (.lf ex3Z)) (HR.out.ext HM E1) ex3_av0 (by rw[ex3_len0];omega) 5 0 (some ⟨w2.heap.size,0,none⟩) 1 [97] (il_one w2 97 (by unfold I64;omega)) (ok_one (by rfl)) (by unfold I64;omega) si).mono (fun e w' h=>RetEd.ok_ h (by rw[ex3_len0];exact ex3_e1)));have HE1:=lh E1;clear E1
 go_upto_region 7 with fail
 go_upto_region 8 with(go_at_call 50;refine HED.out.mono ?_;rintro e w3 ⟨gs,rfl,hr,x3⟩;have HS:=lh hr;have HX3:=lh (HE1.out.trans x3);clear hr x3)
 clear HED HE1;replace HS:Hid (RpAt (SmT false exG3 g m strt) (fun x=>symV false x=true) w3 gs g ex3S.1 ex3S.2):=HS;have E1:=Ext.alloc w3 (.cells #[.int .i64 98] 3);have HED:=lh ((oedit_any HM (w3.alloc (.cells #[.int .i64 98] 3)) (HX2.out.trans (HX3.out.trans E1)) gs ex3S.2 ex3S.1 (HS.out.ext HM E1) ex3_av1 (by rw[ex3_len1];omega) 6 0 (some ⟨w3.heap.size,0,none⟩) 1 [98] (il_one w3 98 (by unfold I64;omega)) (ok_one (by rfl)) (by unfold I64;omega) si).mono (fun e w' h=>RetEd.ok_ h (by rw[ex3_len1];exact ex3_e2)));have HE1:=lh E1;clear E1
 go_upto_region 10 with fail
 go_upto_region 11 with(go_at_call 50;refine HED.out.mono ?_;rintro e w4 ⟨gt,rfl,hr,x4⟩;have HT:=lh hr;have HX4:=lh (HE1.out.trans x4);clear hr x4)
 clear HED HE1;replace HT:Hid (RpAt (SmT false exG3 g m strt) (fun x=>symV false x=true) w4 gt g (edS ex3S.1 6 0 [98]).1 (edS ex3S.1 6 0 [98]).2):=HT;have HXA:=lh (HX2.out.trans (HX3.out.trans HX4.out));have HSUM:=lh (osum_any HM w4 HXA.out gt _ _ HT.out);rw[ex3_txt2] at HSUM
 go_upto_region 13 with fail
 go_upto_region 14 with(first|(go_at_call 59;refine HSUM.out.mono ?_;rintro e w5 ⟨ga,rfl,⟨sa,hsa,ksa⟩,x5⟩;have HX5:=lh x5;have HF:=lh ((HN.out.ext (HXA.out.trans x5)).found hsa ksa ex3_sym (by rw[ex3_len2];omega));clear hsa ksa x5)|(go_at_call 28;refine HF.out.mono ?_;rintro e w6 ⟨F,fc,rfl,hf,x6⟩;have HFF:=lh hf;have HX6:=lh x6;clear hf x6))
 rw[ex3_found];rw[ex3_found] at HFF;have HL1:=lh (oheight_any w6 gr g _ _ (HR.out.ext HM (HX3.out.trans (HX4.out.trans (HX5.out.trans HX6.out)))));have HL2:=lh (omade_any w6 gr g _ _ (HR.out.ext HM (HX3.out.trans (HX4.out.trans (HX5.out.trans HX6.out)))));have HL3:=lh (olen_any w6 gs g _ _ (HS.out.ext HM (HX4.out.trans (HX5.out.trans HX6.out))));have HL4:=lh (oheight_any w6 gs g _ _ (HS.out.ext HM (HX4.out.trans (HX5.out.trans HX6.out))));rw[ex3_hgt1] at HL4;rw[show hgtO (some (Sh.lf ex3Z))=1 from rfl] at HL1;rw[ex3_len1] at HL3;obtain⟨b,o,rfl,hcl⟩:=HFF.out.at_ si;have c0:=hcl 0 si;simp only[List.getElem_cons_zero,Nat.zero_mul,Nat.add_zero] at c0;obtain⟨c0,c1⟩:=c0;clear hcl;have HXX:=lh (HX1.out.trans (HXA.out.trans (HX5.out.trans HX6.out)));clear HFF HSUM HM HW;clear HN HX1 HX2 HX3 HX4 HX5 HX6 HXA HR HS HT
 go_wp2_with (go_at_call 48;refine HL1.out.mono ?_;rintro e w7 ⟨rfl,rfl⟩)
 go_wp2_with (go_at_call 46;refine HL2.out.mono ?_;rintro e w7 ⟨rfl,rfl⟩)
 go_wp2_with (go_at_call 51;refine HL3.out.mono ?_;rintro e w7 ⟨rfl,rfl⟩)
 go_wp2_with (go_at_call 48;refine HL4.out.mono ?_;rintro e w7 ⟨rfl,rfl⟩)
 have HEQ:∀W,(Op.equalIn 10000 82 (.agg #[.int .i64 5,.int .i64 7]) (.agg #[.int .i64 5,.int .i64 7])).run Tryz.prog W=.ok true W:=fun W=>eqArr2 5 7 5 7 W
 go_wp2
 simp only[HEQ,Result.andThen_ok]
 go_wp2
 go_ret
 exact⟨rfl,HXX.out⟩
end
section
open Go.RowKit
attribute [local go_sem ↓] Go.wp_at_zero Go.wp_at_succ
theorem AvO.high {o:Option Sh}(h:AvO o):2 ^ (hgtO o-2)≤((txtO o).length+1)*((txtO o).length+1):=by
 cases o with
 | none=>simp[hgtO,txtO]
 | some t=>
  have h1:=Sh.Av.high (t:=t) h;have h2:2 ^ (t.hgt-2)≤2 ^ (t.hgt-1):=Nat.pow_le_pow_right om om;have h3:t.text.length*t.text.length≤(t.text.length+1)*(t.text.length+1):=Nat.mul_le_mul om om;exact Nat.le_trans h2 (Nat.le_trans h1 h3)
theorem high_any {o:Option Sh}(w:World)(h:AvO o)(hl:(txtO o).length≤65536):Calls Tryz.prog 47 #[.int .i64 (hgtO o),.int .i64 (txtO o).length] w (RetE (.bool true) w):=
 eHigh_any w (hgtO o) (txtO o).length _ (by have:=AvO.hgt_le h hl;omega) hl rfl h.high
theorem treeS_made (ts:List Int):(treeS ts).2≤2*(ts.length / 16+1):=by
 have:=(treeS_ok ts).2.2;omega
theorem ok200 {ts:List Int}(h:∀x∈ts,0≤x∧x≤200):∀x∈ts,symV false x=true:=fun x hx=>by
 have:=h x hx;unfold symV
 simp;omega
theorem text25_bd (l:List Int)(times:Int):∀x∈text25 l times,0≤x∧x≤200:=fun x hx=>rtext_bd l 40 x (repP_mem hx)
theorem text25_len (l:List Int)(times:Int):(text25 l times).length≤240:=by
 have h1:=around_bd times 6 om;have h2:=rtext_len l 40;unfold text25;rw[repP_len];exact Nat.le_trans (Nat.mul_le_mul (show 1+(around times 6).toNat≤6 by omega) h2) om
theorem flatQ_get:∀(es:List Oq) (j:Nat) (h:j<es.length),(flatQ es)[j*3]? = some (.int .i64 es[j].e.at_)∧(flatQ es)[j*3+1]? = some (.int .i64 es[j].e.del)∧(flatQ es)[j*3+2]? = some (.slice es[j].A es[j].e.ins.length es[j].c)
 | [],j,h=>absurd h si
 | e::es,0,_=>⟨rfl,rfl,rfl⟩
 | e::es,j+1,h=>by
  have ih:=flatQ_get es j (by simpa using h);have e1:(j+1)*3=j*3+3:=om;have e2:flatQ (e::es)=.int .i64 e.e.at_::.int .i64 e.e.del::.slice e.A e.e.ins.length e.c::flatQ es:=rfl;rw[e1,e2];exact ih
theorem edit_cells {w:World}{A:Option Addr}{es:List Oq}(h:CellsAt w A (flatQ es)){j:Nat}(hj:j<es.length):∃b o,A=some ⟨b,o,none⟩∧w.cell? ⟨b,o+j*3,none⟩=some (.int .i64 es[j].e.at_)∧w.cell? ⟨b,o+j*3+1,none⟩=some (.int .i64 es[j].e.del)∧w.cell? ⟨b,o+j*3+2,none⟩=some (.slice es[j].A es[j].e.ins.length es[j].c):=by
 have hl:=flatQ_len es;obtain⟨b,o,rfl,hc⟩:=h (by intro e;rw[e] at hl;simp at hl;omega);obtain⟨g0,g1,g2⟩:=flatQ_get es j hj;have one:∀(i:Nat) (v:Value),(flatQ es)[i]? = some v→w.cell? ⟨b,o+i,none⟩=some v:=fun i v hv=>by
  obtain⟨hi,e⟩:=List.getElem?_eq_some_iff.1 hv
  rw[←e];exact hc i hi
 exact⟨b,o,rfl,one _ _ g0,by rw[Nat.add_assoc];exact one _ _ g1,by rw[Nat.add_assoc];exact one _ _ g2⟩
end
section
open Go.RowKit
attribute [local go_sem ↓] Go.wp_at_zero Go.wp_at_succ
@[irreducible] def zeroRK:Array Value:=(List.replicate 65537 (Value.int .i64 0)).toArray
theorem mkRK (W:World):(Instr.makeSlice 22 (.int .i64 65537) (.int .i64 65537)).run Tryz.prog W=.ok (.slice (some ⟨W.heap.size,0,none⟩) 65537 65537) (W.alloc (.cells zeroRK 3)):=by
 unfold zeroRK;exact mkI 65537 om W
theorem zeroRK_il (W:World):∃zs:List Int,zs.length=65537∧(∀x∈zs,x=0)∧IL (W.alloc (.cells zeroRK 3)) (some ⟨W.heap.size,0,none⟩) 65537 zs:=by
 refine⟨List.replicate 65537 0,List.length_replicate,fun x hx=>List.eq_of_mem_replicate hx,?_⟩;unfold zeroRK;exact zero_il W 65537 om
theorem RetEd.ok2 {S:World→Nat→List Int→Prop}{ok:Int→Prop}{g:Nat}{o:Option Sh}{a d:Int}{l:List Int}{w:World}{e:Ending}{w':World}(h:RetEd S ok g o a d l w e w')(he:editErr (txtO o).length a d l=0):∃gr o2 k2,e=.returned (.tuple #[.pointer (some ⟨gr,0,none⟩),.int .i64 0])∧RpAt S ok w' gr g o2 k2∧Ext w w':=by
 rcases h with h|h
 ·exact absurd he h.1
 ·obtain⟨gr,h1,h2,h3⟩:=h.2;exact⟨gr,_,_,h1,h2,h3⟩
theorem RetEd.bad2 {S:World→Nat→List Int→Prop}{ok:Int→Prop}{g:Nat}{o:Option Sh}{a d:Int}{l:List Int}{w:World}{e:Ending}{w':World}(h:RetEd S ok g o a d l w e w')(he:editErr (txtO o).length a d l≠0):e=.returned (.tuple #[.pointer none,.int .i64 (editErr (txtO o).length a d l)])∧Ext w w':=by
 rcases h with h|h
 ·exact h.2
 ·exact absurd h.1 he
theorem editErr_range (n:Nat)(a d:Int)(l:List Int):editErr n a d l=0∨editErr n a d l=4∨editErr n a d l=5:=by
 unfold editErr
 split
 ·split
  ·split
   ·exact .inr (.inl rfl)
   ·exact .inl rfl
  ·exact .inr (.inr rfl)
 ·exact .inr (.inr rfl)
theorem RKz1 {P:Prop} (h:P:=by
 have EZ:=Ext.alloc w9 (.cells zeroRK 3);have HG:=lh (HBIG w9 X9.out);clear HBIG
 go_upto_region 11 with(go_at_call 50;refine HG.out.mono ?_;rintro e w10 ⟨rfl,x10⟩;have X10:=lh (X9.out.trans (EZ.trans x10));clear x10)
 clear HG hmk2 EZ;have d80:=X10.out.cell c80;have d81:=X10.out.cell c81;have d82:=X10.out.cell c82
 go_upto_region 12 with(go_at_call 53;refine(HCK w10 X10.out).out.mono ?_;rintro e w11 ⟨rfl,x11⟩;have X11:=lh (X10.out.trans x11);clear x11)
 clear HCK d80 d81 d82 c80 c81 c82
 go_wp2_with (first|(go_at_call 55;refine(HTX w11 X11.out).out.mono ?_;rintro e w12 ⟨A12,c12,rfl,ho12,hr12,x12⟩;have HI12:=lh (IL.of_own ho12 hr12);have X12:=lh (X11.out.trans x12);clear ho12 hr12 x12)|(go_at_call 54;refine(HSM w12 A12 c12 X12.out HI12.out).out.mono ?_;rintro e w13 h13;obtain⟨rfl,x13⟩:=h13.v;clear h13;have X13:=lh (X12.out.trans x13);clear x13)|(go_at_call 52;refine(HLV w13).out.mono ?_;rintro e w14 ⟨rfl,x14⟩;have X14:=lh (X13.out.trans x14);clear x14))
 go_ret
 exact⟨rfl,HX1.out.trans (X18.out.trans X14.out)⟩):P:=h
theorem ropeErrors_any (w:World)(A0:Option Addr)(c0:Nat)(l0:List Int)(at_ del:Int)(A3:Option Addr)(c3:Nat)(l3:List Int)(many:Int)(i0:IL w A0 c0 l0)(i3:IL w A3 c3 l3)(hd:I64 del)(hm:I64 many) :
 Calls Tryz.prog 10 #[.slice A0 l0.length c0,.int .i64 at_,.int .i64 del,.slice A3 l3.length c3,.int .i64 many] w (RetV (.bool true) w):=by
 have HW:=lh (word_any w);have HI0:=lh i0;have HI3:=lh i3;have hr:=around_bd many 9 om;have HA:=fun(W:World)=>lh (around_any many 9 W hm om om);obtain⟨r,hr6,hre⟩:∃r:Nat,r<9∧around many 9=(r:Int):=⟨(around many 9).toNat,om,om⟩;rw[hre] at HA;clear hr hre hm i0 i3;have HON:=fun(W:World)=>lh (onew_nil W A0 l0.length c0);go_enter Tryz.func10,Tryz.ntmps10
 go_upto_region 2 with(go_at_call 43;refine HW.out.mono ?_;rintro e w1 ⟨x1,g,m,strt,R,rfl,hn⟩;have HX1:=lh x1;have HN:=lh hn;clear x1 hn)
 have HM:=HN.out.mo_;clear HW
 go_upto_region 3 with(go_at_call 45;refine(HON w1).out.mono ?_;rintro e w2 ⟨rfl,x2⟩;have HX2:=lh x2;clear x2)
 clear HON;have hmk:∀W:World,(Instr.makeSlice 22 (.int .i64 (65537+(r:Int))) (.int .i64 (65537+(r:Int)))).run Tryz.prog W=.ok (.slice (some ⟨W.heap.size,0,none⟩) (65537+r) (65537+r)) (W.alloc (.cells (List.replicate (65537+r) (.int .i64 0)).toArray 3)):=fun W=>by
  have h:=mkI (65537+r) om W
  rwa [show(((65537+r:Nat)):Int)=65537+(r:Int) from by omega] at h
 obtain⟨q,hq⟩:∃q,q=(List.replicate (65537+r) (Value.int .i64 0)).toArray:=⟨_,rfl⟩
 rw[←hq] at hmk;obtain⟨L,hL⟩:∃L,L=65537+r:=⟨_,rfl⟩
 rw[←hL] at hmk;have HLO:=fun(W:World) (n:Nat)=>lh (onew_long W g (some ⟨n,0,none⟩) L L om ⟨Nat.le_refl _,om⟩);clear hq hL
 go_upto_region 4 with(first|(go_at_call 17;refine(HA w2).out.mono ?_;rintro e w3 h3;obtain⟨rfl,x3⟩:=h3.v;clear h3;have HX3:=lh x3;clear x3)|(go_at_call 45;refine(HLO _ _).out.mono ?_;rintro e w4 ⟨rfl,x4⟩;have HX4:=lh (HX3.out.trans ((Ext.alloc _ _).trans x4));clear x4))
 clear HLO HA hmk;have X14:=lh (HX2.out.trans HX4.out);have HRT:=lh (rTextO_any A0 c0 l0 40 w4 (HI0.out.ext (HX1.out.trans X14.out)) om);have HB:=lh (rtext_bd l0 40);have hln:=rtext_len l0 40;generalize rtext l0 40=ts at *
 go_upto_region 5 with(go_at_call 25;refine HRT.out.mono ?_;rintro e w5 ⟨A5,c5,rfl,ho5,hr5,x5⟩;have HI5:=lh (IL.of_own ho5 hr5);have X15:=lh (X14.out.trans x5);clear ho5 hr5 x5)
 clear HRT HX2 HX3 HX4 X14;have HNEW:=lh (onew_any HM w5 X15.out A5 c5 ts HI5.out (ok200 HB.out) om)
 go_upto_region 6 with(go_at_call 45;refine HNEW.out.mono ?_;rintro e w6 ⟨gr,rfl,hr,x6⟩;have HR:=lh hr;have X16:=lh (X15.out.trans x6);have HI6:=lh (HI5.out.ext x6);clear hr x6)
 clear HNEW HI5 X15;obtain⟨to1,to2,_⟩:=treeS_ok ts;generalize (treeS ts).1=o at *;generalize (treeS ts).2=kk at *;have HTO:=lh to1;have HTT:=lh to2;have hll:(txtO o).length≤65536:=by rw[to2];omega
 clear to1 to2;have HRI:=lh (rTextO_any A3 c3 l3 5 w6 (HI3.out.ext (HX1.out.trans X16.out)) om);have HB3:=lh (rtext_bd l3 5);have hln3:=rtext_len l3 5;generalize rtext l3 5=ins at *
 go_upto_region 9 with(go_at_call 25;refine HRI.out.mono ?_;rintro e w7 ⟨A7,c7,rfl,ho7,hr7,x7⟩;have HI7:=lh (IL.of_own ho7 hr7);have X17:=lh (X16.out.trans x7);have X67:=lh x7;clear ho7 hr7 x7)
 have E8:=Ext.alloc w7 (.cells #[.int .i64 at_,.int .i64 del,.slice A7 ins.length c7] 102);have B8:=Blk.new w7 102 #[.int .i64 at_,.int .i64 del,.slice A7 ins.length c7];generalize w7.alloc (.cells #[.int .i64 at_,.int .i64 del,.slice A7 ins.length c7] 102)=w8 at *;obtain⟨ge,hge⟩:∃ge,ge=w7.heap.size:=⟨_,rfl⟩
 rw[←hge] at B8 ⊢;clear hge;have X18:=lh (X17.out.trans E8);have X68:=lh (X67.out.trans E8);have HI8:=lh (HI7.out.ext E8);have BX:=lh B8;have HR8:=lh (HR.out.ext HM X68.out);clear E8 B8 X17 X67 HI7 HI3 HI0;obtain⟨c80,c81,c82,_⟩:=BX.out.c3;have HED:=lh (oedit_any HM w8 X18.out gr kk o HR8.out HTO.out hll at_ del A7 c7 ins HI8.out (ok200 HB3.out) hd om);have HERR:=lh (editErr_range (txtO o).length at_ del ins);obtain⟨er,her0⟩:∃er,er=editErr ts.length at_ del ins:=⟨_,rfl⟩;have her:er=editErr (txtO o).length at_ del ins:=by rw[HTT.out];exact her0
 have HCK:=fun(W:World) (x:Ext w8 W)=>lh (rCheck_any A5 ts.length c5 at_ del A7 c7 ins W (HI8.out.ext x) om om hd);have HRR:Hid (er=0∨er=4∨er=5):=lh (by rw[her];exact HERR.out)
 rw[←her0] at HCK;have HE0:Hid (er=0→Calls Tryz.prog 50 #[.pointer (some ⟨gr,0,none⟩),.agg #[.int .i64 at_,.int .i64 del,.slice A7 ins.length c7]] w8 (fun e w'=>∃gr2 o2 k2,e=.returned (.tuple #[.pointer (some ⟨gr2,0,none⟩),.int .i64 0])∧RpAt (SmT false exG3 g m strt) (fun x=>symV false x=true) w' gr2 g o2 k2∧Ext w8 w')):=lh (fun h0=>HED.out.mono fun e w' h=>RetEd.ok2 h (by rw[←her];exact h0));have HE1:Hid (er≠0→Calls Tryz.prog 50 #[.pointer (some ⟨gr,0,none⟩),.agg #[.int .i64 at_,.int .i64 del,.slice A7 ins.length c7]] w8 (fun e w'=>e=.returned (.tuple #[.pointer none,.int .i64 er])∧Ext w8 w')):=lh (fun h0=>HED.out.mono fun e w' h=>by rw[her];exact RetEd.bad2 h (by rw[←her];exact h0));clear her her0 HERR HED HRR;have HBIG:=fun(W:World) (x:Ext w8 W)=>lh (show Calls Tryz.prog 50 #[.pointer (some ⟨gr,0,none⟩),.agg #[.int .i64 0,.int .i64 0,.slice (some ⟨W.heap.size,0,none⟩) 65537 65537]] (W.alloc (.cells zeroRK 3)) (RetV (.tuple #[.pointer none,.int .i64 4]) (W.alloc (.cells zeroRK 3))) by
  obtain⟨zs,hz1,hz2,hz3⟩:=zeroRK_il W;have ho:editErr (txtO o).length 0 0 zs=4:=by
   unfold editErr;rw[if_pos om,if_pos (by rw[List.all_eq_true];intro x hx;rw[hz2 x hx];rfl),if_pos om]
  have h:=oedit_any HM _ ((X18.out.trans x).trans (Ext.alloc W (.cells zeroRK 3))) gr kk o (HR8.out.ext HM (x.trans (Ext.alloc W _))) HTO.out hll 0 0 (some ⟨W.heap.size,0,none⟩) 65537 zs (by rw[hz1] at *;exact hz3) (fun x hx=>by rw[hz2 x hx];rfl) (by unfold I64;omega) om;rw[hz1] at h;refine h.mono ?_;rintro e w' h2;have h3:=RetEd.bad2 h2 (by rw[ho];decide);rw[ho] at h3;exact h3)
 have HTX:=fun(W:World) (x:Ext w8 W)=>lh (otext_any HM W gr kk o (HR8.out.ext HM x) hll);rw[HTT.out] at HTX;have HSM:=fun(W:World) (B:Option Addr) (d:Nat) (x:Ext w8 W) (hb:IL W B d ts)=>lh (show Calls Tryz.prog 54 #[.slice B ts.length d,.slice A5 ts.length c5] W (RetQ (.bool true) W) by
  have h:=sameInts_any B A5 d c5 ts ts W hb (HI6.out.ext (X68.out.trans x))
  rwa [beq_self_eq_true] at h)
 have HLV:=fun(W:World)=>lh (rlives_any W);have hmk2:=mkRK;clear HR8 HR HI8 HTO HTT HB HB3 HN HM;by_cases h0:er=0
 ·have HED:=lh (HE0.out h0);subst h0;clear HE0 HE1
  go_upto_region 10 with(go_at_call 50;refine HED.out.mono ?_;rintro e w9 ⟨gr2,o2,k2,rfl,_,x9⟩;have X9:=lh x9;clear x9)
  exact RKz1
 ·have HED:=lh (HE1.out h0);have hb0:(er != 0)=true:=by simpa using h0
  have hb1:(er == 0)=false:=by simpa using h0
  have hb2:¬(er=0):=h0;clear HE0 HE1
  go_upto_region 10 with(go_at_call 50;refine HED.out.mono ?_;rintro e w9 ⟨rfl,x9⟩;have X9:=lh x9;clear x9)
  exact RKz1
end
section
open Go.RowKit
attribute [local go_sem ↓] Go.wp_at_zero Go.wp_at_succ
theorem OwnS.tyq {w:World}{base T size n c:Nat}{A:Option Addr}{xs:List Value}(h:OwnS w base T size A n c xs):TyQ T w (fun b=>A.map (·.block)=some b):=fun b hb=>TyA.own h b hb
theorem OwnS.kpN {w w':World}{base e size n c:Nat}{A:Option Addr}{xs:List Value}{p:Nat→Prop}(h:OwnS w base e size A n c xs)(k:KpP p w w')(hp:∀b,p b→∀cur,w.heap[b]?≠some (.cells cur e (0,0))):OwnS w' base e size A n c xs:=by
 refine⟨h.1,?_⟩;rcases h.2 with h2|⟨g,cap,cur,hv,hg,hh,r⟩
 ·exact Or.inl h2
 ·exact Or.inr ⟨g,cap,cur,hv,hg,(k.block g (Array.getElem?_eq_some_iff.1 hh).1 (fun hb=>hp g hb cur hh)).trans hh,r⟩
theorem TyQ.ne {T:Nat}{w:World}{p:Nat→Prop}(h:TyQ T w p){e:Nat}(he:e≠T):∀b,p b→∀cur,w.heap[b]?≠some (.cells cur e (0,0)):=fun b hb cur hc=>h.no hc he hb
theorem KpP.grown {p:Nat→Prop}{a b c:World}(h:KpP p a b){row:Option Nat}(hg:b.grownBy c row)(hr:∀k,row=some k→p k∨a.heap.size≤k):KpP p a c:=
 ⟨hg.os.trans h.os,hg.tape.trans h.tape,hg.output.trans h.output,Nat.le_trans h.size hg.size,fun k hk hn=>(hg.block k (Nat.lt_of_lt_of_le hk h.size) (fun e=>by
  rcases hr k e.symm with h1|h1
  ·exact hn h1
  ·omega)).trans (h.block k hk hn)⟩
theorem grown_kpP {w w':World}{A:Option Addr}(hg:w.grownBy w' (A.map (·.block))):KpP (fun b=>A.map (·.block)=some b) w w':=⟨hg.os,hg.tape,hg.output,hg.size,fun k hk hn=>hg.block k hk (fun e=>hn e.symm)⟩
theorem IL.notBlk {w:World}{A:Option Addr}{c:Nat}{xs:List Int}(h:IL w A c xs)(hx:xs≠[]){g T:Nat}{v:Value}(hb:Blk w g T #[v])(hv:∀z,v≠.int .i64 z):A.map (·.block)≠some g:=by
 obtain⟨b,o,rfl,hc⟩:=h.at_ hx;intro e;have e2:b=g:=by simpa using e
 subst e2;have hl:0<xs.length:=List.length_pos_iff.2 hx;have h1:=hc 0 hl;rw[hb.cell] at h1
 cases o with
 | zero=>simp at h1;exact hv _ h1
 | succ o=>simp at h1
section
variable {w0 w w':World} {g:Nat} {ok:Int→Prop} {S:World→Nat→List Int→Prop}
theorem RtAt.kpS {T:Nat}{p:Nat→Prop}(k:KpP p w w')(q:TyQ T w p)(hS:∀a ts,S w a ts→S w' a ts)(h1:238≠T)(h2:241≠T)(h3:3≠T):∀{t:Sh} {v:Value},RtAt S w v t→RtAt S w' v t
 | .lf _,_,⟨b,A,c,gs,e,hb,hi,ht,hs⟩=>⟨b,A,c,gs,e,k.blk hb (q.no hb h1),hi.kp k (fun _ b' hb'=>by
  obtain⟨cur,e'⟩:=ht b' hb';exact q.no e' h3),ht.kpP k q h3,hS _ _ hs⟩
 | .nd _ _,_,⟨b,vl,vr,gs,e,hb,h4,h5,hs⟩=>⟨b,vl,vr,gs,e,k.blk hb (q.no hb h2),RtAt.kpS k q hS h1 h2 h3 h4,RtAt.kpS k q hS h1 h2 h3 h5,hS _ _ hs⟩
theorem RpAt.kpS {T:Nat}{p:Nat→Prop}{gr kk:Nat}{o:Option Sh}(h:RpAt S ok w gr g o kk)(k:KpP p w w')(q:TyQ T w p)(hS:∀a ts,S w a ts→S w' a ts)(h1:238≠T)(h2:241≠T)(h3:3≠T)(h4:176≠T):RpAt S ok w' gr g o kk:=by
 obtain⟨v,hb,hv⟩:=h;refine⟨v,k.blk hb (q.no hb h4),?_⟩
 cases o with
 | none=>exact hv
 | some t=>
  have hv':Tr S ok w v t:=hv;exact(⟨RtAt.kpS k q hS h1 h2 h3 hv'.at_,hv'.ok_,hv'.h,hv'.n⟩:Tr S ok w' v t)
end
structure Rq where
 gr:Nat
 o:Option Sh
 k:Nat
 A:Option Addr
 c:Nat
def ptrR (l:List Rq):List Value:=l.map fun q=>.pointer (some ⟨q.gr,0,none⟩)
def slcR (l:List Rq):List Value:=l.map fun q=>.slice q.A (txtO q.o).length q.c
theorem ptrR_app (l m:List Rq):ptrR (l++m)=ptrR l++ptrR m:=List.map_append
theorem slcR_app (l m:List Rq):slcR (l++m)=slcR l++slcR m:=List.map_append
theorem infoPR:(Tryz.prog.info? 94).map (fun i=>(i.zero,i.size,i.bytes))=some (some (.pointer none),1,8):=by kernel_rfl
theorem infoSlI:(Tryz.prog.info? 22).map (fun i=>(i.zero,i.size,i.bytes))=some (some (.slice none 0 0),1,24):=by kernel_rfl
section
variable (S:World→Nat→List Int→Prop) (ok:Int→Prop) (g:Nat)
structure QAt (w:World)(AR AT:Option Addr)(q:Rq):Prop where
 rp:RpAt S ok w q.gr g q.o q.k
 av:AvO q.o
 le:(txtO q.o).length≤65536
 il:IL w q.A q.c (txtO q.o)
 ap:txtO q.o≠[]→∀b,q.A.map (·.block)=some b→AR.map (·.block)≠some b∧AT.map (·.block)≠some b
structure RLi (wb wr:World)(base gR gT:Nat)(AR:Option Addr)(cR:Nat)(AT:Option Addr)(cT:Nat)(l lr lt:List Rq):Prop where
 rown:OwnS wr base 94 1 AR lr.length cR (ptrR lr)
 town:OwnS wr base 22 1 AT lt.length cT (slcR lt)
 at_:∀q∈l,QAt S ok g wr AR AT q
 kp:KpP (fun b=>b=gR∨b=gT) wb wr
 br:∀b,AR.map (·.block)=some b→b=gR∨wb.heap.size≤b
 bt:∀b,AT.map (·.block)=some b→b=gT∨wb.heap.size≤b
def KpS:Prop:=∀{w w':World} {p:Nat→Prop} {T:Nat},KpP p w w'→TyQ T w p→T=94∨T=22→∀a ts,S w a ts→S w' a ts
end
section
variable {w0 wb wr wx:World} {g base gR gT cR cT:Nat} {AR AT:Option Addr} {ok:Int→Prop} {S:World→Nat→List Int→Prop} {l lr lt:List Rq}
theorem QAt.ext (M:Mo w0 g ok S){q:Rq}(h:QAt S ok g wr AR AT q)(x:Ext wr wx):QAt S ok g wx AR AT q:=⟨h.rp.ext M x,h.av,h.le,h.il.ext x,h.ap⟩
theorem RLi.ext (M:Mo w0 g ok S)(h:RLi S ok g wb wr base gR gT AR cR AT cT l lr lt)(x:Ext wr wx):RLi S ok g wb wx base gR gT AR cR AT cT l lr lt:=
 ⟨OwnS.ext h.rown x,OwnS.ext h.town x,fun q hq=>(h.at_ q hq).ext M x,h.kp.thenExt x,h.br,h.bt⟩
theorem RLi.add (h:RLi S ok g wb wr base gR gT AR cR AT cT l lr lt){q:Rq}(hq:QAt S ok g wr AR AT q):RLi S ok g wb wr base gR gT AR cR AT cT (l++[q]) lr lt:=
 ⟨h.rown,h.town,fun z hz=>by
  rcases List.mem_append.1 hz with hz|hz
  ·exact h.at_ z hz
  ·rw[List.mem_singleton.1 hz];exact hq,h.kp,h.br,h.bt⟩
theorem RLi.pushR (HS:KpS S)(h:RLi S ok g wb wr base gR gT AR cR AT cT l lr lt)(q:Rq){A2:Option Addr}{c2:Nat}(hg:wr.grownBy wx (AR.map (·.block)))(hat:A2.map (·.block)=AR.map (·.block)∨A2.map (·.block)=some wr.heap.size)
 (ho:OwnS wx base 94 1 A2 (lr++[q]).length c2 (ptrR (lr++[q]))):RLi S ok g wb wx base gR gT A2 c2 AT cT l (lr++[q]) lt:=by
 have hk:=grown_kpP hg;have hq:=OwnS.tyq h.rown;refine⟨ho,OwnS.kpN h.town hk (hq.ne de),fun z hz=>?_,h.kp.grown hg (fun k e=>by
  rcases h.br k e with h1|h1
  ·exact .inl (.inl h1)
  ·exact .inr h1),fun b hb=>?_,h.bt⟩
 ·have hzz:=h.at_ z hz;refine⟨hzz.rp.kpS hk hq (HS hk hq (.inl rfl)) de de de de,hzz.av,hzz.le,hzz.il.kp hk (fun h0 b hb=>(hzz.ap h0 b hb).1),fun h0 b hb=>⟨?_,(hzz.ap h0 b hb).2⟩⟩;rcases hat with e|e
  ·rw[e];exact(hzz.ap h0 b hb).1
  ·rw[e];have:=hzz.il.blt h0 hb;intro e2;injection e2 with e2;omega
 ·rcases hat with e|e
  ·rw[e] at hb;exact h.br b hb
  ·rw[e] at hb;injection hb with hb
   have:=h.kp.size;exact .inr om
theorem RLi.pushT (HS:KpS S)(h:RLi S ok g wb wr base gR gT AR cR AT cT l lr lt)(q:Rq){A2:Option Addr}{c2:Nat}(hg:wr.grownBy wx (AT.map (·.block)))(hat:A2.map (·.block)=AT.map (·.block)∨A2.map (·.block)=some wr.heap.size)
 (ho:OwnS wx base 22 1 A2 (lt++[q]).length c2 (slcR (lt++[q]))):RLi S ok g wb wx base gR gT AR cR A2 c2 l lr (lt++[q]):=by
 have hk:=grown_kpP hg;have hq:=OwnS.tyq h.town;refine⟨OwnS.kpN h.rown hk (hq.ne de),ho,fun z hz=>?_,h.kp.grown hg (fun k e=>by
  rcases h.bt k e with h1|h1
  ·exact .inl (.inr h1)
  ·exact .inr h1),h.br,fun b hb=>?_⟩
 ·have hzz:=h.at_ z hz;refine⟨hzz.rp.kpS hk hq (HS hk hq (.inr rfl)) de de de de,hzz.av,hzz.le,hzz.il.kp hk (fun h0 b hb=>(hzz.ap h0 b hb).2),fun h0 b hb=>⟨(hzz.ap h0 b hb).1,?_⟩⟩;rcases hat with e|e
  ·rw[e];exact(hzz.ap h0 b hb).2
  ·rw[e];have:=hzz.il.blt h0 hb;intro e2;injection e2 with e2;omega
 ·rcases hat with e|e
  ·rw[e] at hb;exact h.bt b hb
  ·rw[e] at hb;injection hb with hb
   have:=h.kp.size;exact .inr om
theorem RLi.rope (h:RLi S ok g wb wr base gR gT AR cR AT cT l lr lt){j:Nat}(hj:j<lr.length):∃b o,AR=some ⟨b,o,none⟩∧wr.cell? ⟨b,o+j,none⟩=some (.pointer (some ⟨lr[j].gr,0,none⟩)):=by
 obtain⟨b,o,e,hc⟩:=OwnS.cells h.rown (by intro e;have:=congrArg List.length e;simp[ptrR] at this;subst this;simp at hj);exact⟨b,o,e,by have:=hc j (by simpa[ptrR] using hj);simpa[ptrR] using this⟩
theorem RLi.text (h:RLi S ok g wb wr base gR gT AR cR AT cT l lr lt){j:Nat}(hj:j<lt.length):∃b o,AT=some ⟨b,o,none⟩∧wr.cell? ⟨b,o+j,none⟩=some (.slice lt[j].A (txtO lt[j].o).length lt[j].c):=by
 obtain⟨b,o,e,hc⟩:=OwnS.cells h.town (by intro e;have:=congrArg List.length e;simp[slcR] at this;subst this;simp at hj);exact⟨b,o,e,by have:=hc j (by simpa[slcR] using hj);simpa[slcR] using this⟩
end
theorem SmT.kpT {rn:Bool}{G:List Ins}{g:Nat}{m:Ma}{strt:List Sp}:KpS (SmT rn G g m strt):=fun k q hT a ts ⟨s,h1,h2⟩=>⟨s,h1.kpT k q (by rcases hT with e|e<;>rw[e]<;>decide) (by rcases hT with e|e<;>rw[e]<;>decide),h2⟩
theorem RetEd.ok3 {S:World→Nat→List Int→Prop}{ok:Int→Prop}{g:Nat}{o:Option Sh}{a d:Int}{l:List Int}{w:World}{e:Ending}{w':World}(h:RetEd S ok g o a d l w e w')(he:editErr (txtO o).length a d l=0):RetRp S ok g (edS o a.toNat d.toNat l).1 (edS o a.toNat d.toNat l).2 w e w':=by
 rcases h with h|h
 ·exact absurd he h.1
 ·exact h.2
theorem splice_ed {o:Option Sh}{a d:Int}{ins:List Int}(ha:AvO o)(h0:0≤a)(h1:0≤d)(h2:a+d≤(txtO o).length):spliceL (txtO o) a d ins=txtO (edS o a.toNat d.toNat ins).1:=by
 have h:=(edS_ok (t:=o) (k:=a.toNat) (d:=d.toNat) ins ha om).2.1;rw[h];unfold spliceL;rw[show(a+d).toNat=a.toNat+d.toNat by omega]
end
section
open Go.RowKit
attribute [local go_sem ↓] Go.wp_at_zero Go.wp_at_succ
theorem ropeEdits_any (w:World)(A0:Option Addr)(c0:Nat)(l0:List Int)(times:Int)(A3:Option Addr)(c3:Nat)(l3:List Int)(fr to_:Int)(i0:IL w A0 c0 l0)(i3:IL w A3 c3 l3)(ht:I64 times)(hfr:I64 fr)(hto:I64 to_) :
 Calls Tryz.prog 11 #[.slice A0 l0.length c0,.int .i64 times,.slice A3 l3.length c3,.int .i64 fr,.int .i64 to_] w (RetV (.bool true) w):=by
 have HW:=lh (word_any w);have HI0:=lh i0;have HI3:=lh i3;have HTX:=fun(W:World) (x:Ext w W)=>lh (eText_any W A0 c0 l0 (HI0.out.ext x) times ht);have HTB:=lh (text25_bd l0 times);have HTL:=lh (text25_len l0 times);generalize text25 l0 times=ts at *;clear ht i0 i3;obtain⟨ip0,hip,ip1,ip2,ip3⟩:=info_parts infoPR;obtain⟨is0,his,is1,is2,is3⟩:=info_parts infoSlI;go_enter Tryz.func11,Tryz.ntmps11
 go_upto_region 2 with(go_at_call 43;refine HW.out.mono ?_;rintro e w1 ⟨x1,g,m,strt,R,rfl,hn⟩;have HX1:=lh x1;have HN:=lh hn;clear x1 hn)
 have HM:=HN.out.mo_;have HS:Hid (KpS (SmT false exG3 g m strt)):=lh SmT.kpT;generalize hSS:SmT false exG3 g m strt=S at *;clear HW hSS
 go_upto_region 3 with(go_at_call 44;refine(HTX w1 HX1.out).out.mono ?_;rintro e w2 ⟨A2,c2,rfl,hi2,x2,_⟩;have HI2:=lh hi2;have HX2:=lh x2;clear hi2 x2)
 clear HTX HI0;have hln:=HTL.out;have HNEW:=lh (onew_any HM w2 HX2.out A2 c2 ts HI2.out (ok200 HTB.out) om)
 go_upto_region 6 with(go_at_call 45;refine HNEW.out.mono ?_;rintro e w3 ⟨gr,rfl,hr,x3⟩;have HR:=lh hr;have HX3:=lh (HX2.out.trans x3);have HI3t:=lh (HI2.out.ext x3);clear hr x3)
 clear HNEW HI2 HX2;obtain⟨to1,to2,_⟩:=treeS_ok ts;generalize (treeS ts).1=o at *;generalize (treeS ts).2=kk at *;have HTO:=lh to1;subst to2;clear to1;obtain⟨BR,BT,XA⟩:=alloc2 w3 94 #[.pointer (some ⟨gr,0,none⟩)] 22 #[.slice A2 (txtO o).length c2]
 go_upto_region 8 with fail
 obtain⟨gR,hgR⟩:∃gR,gR=w3.heap.size:=⟨_,rfl⟩;obtain⟨gT,hgT⟩:∃gT,gT=w3.heap.size+1:=⟨_,rfl⟩;have HRF:=lh (show ∀b,A2.map (·.block)=some b→txtO o≠[]→b<gR from fun b hb h0=>by rw[hgR];exact HI3t.out.blt h0 hb);have HSZ:=lh (show w1.heap.size≤gR∧gT=gR+1 from by have:=HX3.out.size;omega)
 rw[←hgT,←hgR]
 rw[←hgT] at BT
 rw[←hgR] at BR;clear hgT hgR;generalize (w3.alloc (Obj.cells #[Value.pointer (some ⟨gr,0,none⟩)] 94)).alloc (Obj.cells #[Value.slice A2 (txtO o).length c2] 22)=w4 at *;have HBR:=lh BR;have HBT:=lh BT;have HX4:=lh (HX3.out.trans XA);have HI4:=lh (HI3t.out.ext XA);have HR4:=lh (HR.out.ext HM XA);clear BR BT XA HI3t HR HX3;have HED:=lh (eEdits_any w4 A2 c2 (txtO o) HI4.out om A3 c3 l3 (HI3.out.ext (HX1.out.trans HX4.out)) 20 om)
 go_upto_region 9 with(go_at_call 49;refine HED.out.mono ?_;rintro e w5 ⟨EA,ec,es,rfl,hel,heo,hea,x5⟩;have HEO:=lh heo;have HEA:=lh hea;have HR5:=lh (HR4.out.ext HM x5);have HX5:=lh (HX4.out.trans x5);have HBR5:=lh (HBR.out.ext x5);have HBT5:=lh (HBT.out.ext x5);have HI5:=lh (HI4.out.ext x5);clear heo hea x5)
 clear HED HR4 HX4 HBR HBT HI4 HI3;have HL0:Hid (RLi S (fun x=>symV false x=true) g w5 w5 w1.heap.size gR gT (some ⟨gR,0,none⟩) 1 (some ⟨gT,0,none⟩) 1 [⟨gr,o,kk,A2,c2⟩] [⟨gr,o,kk,A2,c2⟩] [⟨gr,o,kk,A2,c2⟩]):=lh ⟨
  by
   have h:=OwnS.of_blk (n:=1) (c:=1) (size:=1) (base:=w1.heap.size) HBR5.out HSZ.out.1 rfl (Nat.le_refl _) um;exact h,
  by
   have h:=OwnS.of_blk (n:=1) (c:=1) (size:=1) (base:=w1.heap.size) HBT5.out (by have:=HSZ.out;omega) rfl (Nat.le_refl _) um;exact h,
  fun q hq=>by
   rw[List.mem_singleton.1 hq];exact⟨HR5.out,HTO.out,(show(txtO o).length≤65536 by omega),HI5.out,fun h0 b hb=>by
    have h1:=HRF.out b hb h0;have h2:=HSZ.out;constructor
    ·intro e;simp at e;omega
    ·intro e;simp at e;omega⟩,
  KpP.refl _ _,fun b hb=>.inl (by simpa using hb.symm),fun b hb=>.inl (by simpa using hb.symm)⟩
 clear HR5 HI5 HRF HTB HTL;have HXW:=fun(W:World) (k:KpP (fun b=>b=gR∨b=gT) w5 W)=>Ext.kp HX5.out k (fun i hi=>by have:=HSZ.out;omega)
 go_wp2
 go_loopw [12,13,15,16,18] (fun t r rs tx i wr=>∃(j:Nat) (l:List Rq) (q:Rq) (AR:Option Addr) (cR:Nat) (AT:Option Addr) (cT:Nat),j≤es.length∧l.length≤j+1∧t=.slice q.A (txtO q.o).length q.c∧r=.pointer (some ⟨q.gr,0,none⟩)∧rs=.slice AR l.length cR∧tx=.slice AT l.length cT∧i=.int .i64 j∧q∈l∧Hid (RLi S (fun x=>symV false x=true) g w5 wr w1.heap.size gR gT AR cR AT cT l l l)) (fun _ _ _ _ i _=>es.length-(intOf i).toNat)
 case atStart=>exact⟨0,_,⟨gr,o,kk,A2,c2⟩,_,_,_,_,Nat.zero_le _,Nat.le_refl _,rfl,rfl,rfl,rfl,rfl,by simp,HL0⟩
 case round=>
  clear HL0;obtain⟨j,l,q,AR,cR,AT,cT,hj,hlj,rfl,rfl,rfl,rfl,rfl,hq,HL⟩:=hrel;by_cases hlt:j<es.length
  ·have HQ:=lh (HL.out.at_ q hq);have X1r:=lh (HXW wr HL.out.kp);have h35:∀b,(b=gR∨b=gT)→∀cur,w5.heap[b]?≠some (.cells cur 102 (0,0)):=fun b hb cur hc=>by
    rcases hb with rfl|rfl
    ·have h1:=HBR5.out.symm.trans hc;injection h1 with h1;injection h1 with _ h1;exact absurd h1 de
    ·have h1:=HBT5.out.symm.trans hc;injection h1 with h1;injection h1 with _ h1;exact absurd h1 de
   obtain⟨pb,po,rfl,q0,q1,q2⟩:=edit_cells (OwnS.cells (OwnS.kpN HEO.out HL.out.kp h35)) hlt;obtain⟨ei,en⟩:=HEA.out es[j] (List.getElem_mem _);have eiw:=IL.kp ei HL.out.kp (fun h0 b hb hor=>by
    rcases hor with rfl|rfl
    ·exact ei.notBlk h0 HBR5.out (fun z=>by simp) hb
    ·exact ei.notBlk h0 HBT5.out (fun z=>by simp) hb)
   generalize es[j]=e0 at *;have HEI:=lh eiw;obtain⟨n1,n2,n3,n4,n5,n6⟩:=en;have hil:=n2;have HED:=lh (oedit_any HM wr X1r.out q.gr q.k q.o HQ.out.rp HQ.out.av HQ.out.le e0.e.at_ e0.e.del e0.A e0.c e0.e.ins HEI.out (ok200 n1) (by unfold I64;omega) om);have HCK:=fun(W:World) (x:Ext wr W)=>lh (rCheck_any q.A (txtO q.o).length q.c e0.e.at_ e0.e.del e0.A e0.c e0.e.ins W (HEI.out.ext x) (by have:=HQ.out.le;omega) (by have:=HQ.out.le;omega) (by unfold I64;omega));have HQL:=lh (fun(W:World) (x:Ext wr W)=>And.intro (x.cell q0) (And.intro (x.cell q1) (x.cell q2)));clear n1 n2 n3 n4 n5 n6 ei eiw h35;by_cases he:editErr (txtO q.o).length e0.e.at_ e0.e.del e0.e.ins=0
   ·obtain⟨f1,f2,f3,f4,f5⟩:=editErr_ok he;obtain⟨s1,s2,s3⟩:=edS_ok (t:=q.o) (k:=e0.e.at_.toNat) (d:=e0.e.del.toNat) e0.e.ins HQ.out.av om;have s4:(txtO (edS q.o e0.e.at_.toNat e0.e.del.toNat e0.e.ins).1).length≤65536:=by rw[s2];simp only[List.length_append,List.length_take,List.length_drop];omega
    have s5:=splice_ed (ins:=e0.e.ins) HQ.out.av f1 f2 f3;have HEK:=lh (HED.out.mono (fun e w h=>RetEd.ok3 h he));have HSP:=fun(W:World) (x:Ext wr W)=>lh (rSplice_any q.A q.c (txtO q.o) e0.e.at_ e0.e.del e0.A e0.c e0.e.ins W (HQ.out.il.ext x) (HEI.out.ext x) (by have:=HQ.out.le;omega) om f1 f2 f3);rw[s5] at HSP;rw[he] at HCK;generalize (edS q.o e0.e.at_.toNat e0.e.del.toNat e0.e.ins).1=o2 at *;generalize (edS q.o e0.e.at_.toNat e0.e.del.toNat e0.e.ins).2=k2 at *;clear HED s2 s3 s5 f1 f2 f3 f4 f5 he;have HS1:=lh s1;have HS4:=lh s4;clear s1 s4
    go_upto_region 13 with(go_at_call 50;refine HEK.out.mono ?_;rintro e w6 ⟨gs,rfl,hrp,x6⟩;have HRP:=lh hrp;have X6:=lh x6;clear hrp x6)
    obtain⟨r0,r1,r2⟩:=HQL.out w6 X6.out;clear q0 q1 q2 HEK
    go_upto_region 14 with(go_at_call 53;refine(HCK w6 X6.out).out.mono ?_;rintro e w7 ⟨rfl,x7⟩;have X67:=lh x7;have X7:=lh (X6.out.trans x7);clear x7)
    obtain⟨t0,t1,t2⟩:=HQL.out w7 X7.out;clear r0 r1 r2 HCK
    go_upto_region 19 with(go_at_call 56;refine(HSP w7 X7.out).out.mono ?_;rintro e w8 ⟨A8,c8,rfl,hi8,x8,hf8⟩;have HI8:=lh hi8;have X78:=lh x8;have X8:=lh (X7.out.trans x8);have HF8:=lh hf8;clear hi8 x8 hf8)
    clear t0 t1 t2 HSP HQL;have HL8:=lh (RLi.add (HL.out.ext HM X8.out) (q:=⟨gs,o2,k2,A8,c8⟩) ⟨HRP.out.ext HM (X67.out.trans X78.out),HS1.out,HS4.out,HI8.out,fun h0 b hb=>by
     have h1:=HF8.out b hb;have h2:=X7.out.size;refine⟨fun e=>?_,fun e=>?_⟩
     ·obtain⟨cur,hc⟩:=OwnS.tyq HL.out.rown b e;have:=(Array.getElem?_eq_some_iff.1 hc).1;omega
     ·obtain⟨cur,hc⟩:=OwnS.tyq HL.out.town b e;have:=(Array.getElem?_eq_some_iff.1 hc).1;omega⟩)
    obtain⟨q8,hq8⟩:∃q8:Rq,q8=⟨gs,o2,k2,A8,c8⟩:=⟨_,rfl⟩;have HG8:=lh (show gs=q8.gr∧A8=q8.A∧o2=q8.o∧c8=q8.c by rw[hq8];exact⟨rfl,rfl,rfl,rfl⟩)
    rw[←hq8] at HL8;clear hq8 HF8 HI8 HRP HS1 HS4 HL;have hl21:l.length≤21:=om;have hz8:w1.heap.size≤w8.heap.size:=Nat.le_trans X1r.out.size X8.out.size;have HPA:=lh (Ext.alloc w8 (.cells #[.pointer (some ⟨gs,0,none⟩)] 94));have HL9:=lh (HL8.out.ext HM HPA.out)
    go_upto_region 20 with(at_builtin;refine wpList_app _ rfl _ _ _ rfl w1.heap.size 94 ip0 (.pointer none) 1 8 Tryz.underlying107 hip ip1 ip2 ip3 rfl om AR l.length cR (ptrR l) rfl HL9.out.rown _ 1 1 [.pointer (some ⟨gs,0,none⟩)] rfl rfl (blk_cells (Blk.new _ _ _)) (by intro u hu;obtain rfl:=List.mem_singleton.1 hu;rfl) um om (Nat.le_trans hz8 HPA.out.size) ?_;intro A9 c9 w9 ho9 hg9 hat9;have HO9:=lh ho9;have HGR9:=lh hg9;have HAT9:=lh hat9;clear ho9 hg9 hat9)
    have HL10:Hid (RLi S (fun x=>symV false x=true) g w5 w9 w1.heap.size gR gT A9 c9 AT cT (l++[q8]) (l++[q8]) l):=lh (RLi.pushR HS.out HL9.out q8 HGR9.out HAT9.out (by
     have h:=HO9.out;rw[HG8.out.1] at h;rw[ptrR_app,List.length_append];exact h))
    have hz9:w1.heap.size≤w9.heap.size:=Nat.le_trans (Nat.le_trans hz8 HPA.out.size) HGR9.out.size;clear HO9 HGR9 HAT9 HL8 HL9 HPA;have HPB:=lh (Ext.alloc w9 (.cells #[.slice A8 (txtO o2).length c8] 22));have HL11:=lh (HL10.out.ext HM HPB.out)
    go_wp2_with (at_builtin;refine wpList_app _ rfl _ _ _ rfl w1.heap.size 22 is0 (.slice none 0 0) 1 24 Tryz.underlying50 his is1 is2 is3 rfl om AT l.length cT (slcR l) rfl HL11.out.town _ 1 1 [.slice A8 (txtO o2).length c8] rfl rfl (blk_cells (Blk.new _ _ _)) (by intro u hu;obtain rfl:=List.mem_singleton.1 hu;rfl) um om (Nat.le_trans hz9 HPB.out.size) ?_;intro A10 c10 w10 ho10 hg10 hat10;have HO10:=lh ho10;have HGR10:=lh hg10;have HAT10:=lh hat10;clear ho10 hg10 hat10)
    have HL12:Hid (RLi S (fun x=>symV false x=true) g w5 w10 w1.heap.size gR gT A9 c9 A10 c10 (l++[q8]) (l++[q8]) (l++[q8])):=lh (RLi.pushT HS.out HL11.out q8 HGR10.out HAT10.out (by
     have h:=HO10.out;rw[HG8.out.2.1,HG8.out.2.2.1,HG8.out.2.2.2] at h;rw[slcR_app,List.length_append];exact h))
    clear HO10 HGR10 HAT10 HL10 HL11 HPB;go_roundw
    case rel=>exact⟨j+1,l++[q8],q8,A9,c9,A10,c10,om,by simp;omega,by rw[HG8.out.2.1,HG8.out.2.2.1,HG8.out.2.2.2],by rw[HG8.out.1],by simp,by simp,by go_num,by simp,HL12⟩
    case measure=>simp[intOf];omega
   ·have HEK:=lh (HED.out.mono (fun e w h=>RetEd.bad2 h he));clear HED;generalize editErr (txtO q.o).length e0.e.at_ e0.e.del e0.e.ins=er at *;have hb0:(er != 0)=true:=by simpa using he
    have hb1:(er == 0)=false:=by simpa using he
    go_upto_region 13 with(go_at_call 50;refine HEK.out.mono ?_;rintro e w6 ⟨rfl,x6⟩;have X6:=lh x6;clear x6)
    obtain⟨r0,r1,r2⟩:=HQL.out w6 X6.out;clear q0 q1 q2
    go_wp2_with (go_at_call 53;refine(HCK w6 X6.out).out.mono ?_;rintro e w7 ⟨rfl,x7⟩;have X7:=lh (X6.out.trans x7);clear x7)
    go_roundw
    case rel=>exact⟨j+1,l,q,AR,cR,AT,cT,om,om,rfl,rfl,rfl,rfl,by go_num,hq,lh (HL.out.ext HM X7.out)⟩
    case measure=>simp[intOf];omega
  ·have hle:(es.length:Int)≤j:=om;have hl21:l.length≤21:=om
   go_upto_region 22 with fail
   clear hle hlt;obtain⟨wz,rfl⟩:∃wz,wz=wr:=⟨_,rfl⟩;have XZ:=lh (HXW wz HL.out.kp)
   go_loopw [22] (fun i wr=>∃j:Nat,i=.int .i64 j∧j≤l.length∧Hid (Ext wz wr)) (fun i _=>l.length-(intOf i).toNat)
   case atStart=>exact⟨0,rfl,Nat.zero_le _,lh (Ext.rfl' _)⟩
   case round=>
    obtain⟨j,rfl,hjl,HXR⟩:=hrel;have HLr:=lh (HL.out.ext HM HXR.out);have XW:=lh (XZ.out.trans HXR.out);by_cases hlt:j<l.length
    ·obtain⟨rb,ro,rfl,rc⟩:=HLr.out.rope hlt;obtain⟨tb,to2,rfl,tc⟩:=HLr.out.text hlt;have HQ:=lh (HLr.out.at_ l[j] (List.getElem_mem _));generalize l[j]=z at *;have hzl:=HQ.out.le;obtain⟨n,hn⟩:∃n,n=(txtO z.o).length:=⟨_,rfl⟩;have HNL:=lh hn;have b1:=around_bd fr ((n:Int)+1) om;have HA1:=fun(W:World)=>lh (around_any fr ((n:Int)+1) W hfr om om);obtain⟨a,ha1,ha2⟩:∃a:Nat,a≤n∧around fr ((n:Int)+1)=(a:Int):=⟨(around fr ((n:Int)+1)).toNat,om,om⟩;rw[ha2] at HA1;have b2:=around_bd to_ ((n:Int)-(a:Int)+1) om;have HA2:=fun(W:World)=>lh (around_any to_ ((n:Int)-(a:Int)+1) W hto om om);obtain⟨d,hd1,hd2⟩:∃d:Nat,a+d≤n∧around to_ ((n:Int)-(a:Int)+1)=(d:Int):=⟨(around to_ ((n:Int)-(a:Int)+1)).toNat,om,om⟩;rw[hd2] at HA2;obtain⟨b,hb⟩:∃b,b=a+d:=⟨_,rfl⟩;have hbI:(a:Int)+(d:Int)=(b:Int):=om;have hbn:b≤n:=om;have hab:a≤b:=om;clear b1 b2 ha2 hd2 hb;have HS1:=fun(W:World) (x:Ext wr W)=>lh (oslice_any HM W z.gr z.k z.o (HQ.out.rp.ext HM x) hzl a b hab om);have HS2:=fun(W:World) (x:Ext wr W)=>lh (oslice_bad W z.gr z.k z.o (HQ.out.rp.ext HM x) hzl a ((n:Int)+1) om);have HS3:=fun(W:World) (x:Ext wr W)=>lh (oslice_bad W z.gr z.k z.o (HQ.out.rp.ext HM x) hzl (-1) b om);have HS4:=fun(W:World) (x:Ext wr W)=>lh (oslice_bad W z.gr z.k z.o (HQ.out.rp.ext HM x) hzl ((b:Int)+1) b om);have HPL:(((txtO z.o).take b).drop a).length=b-a:=by rw[List.length_drop,List.length_take];omega
     have hzn:(txtO z.o).length=n:=hn.symm;rw[hzn] at hzl tc;have HRC:=lh (fun(W:World) (x:Ext wr W)=>And.intro (x.cell rc) (x.cell tc));clear hn;obtain⟨pt,hpt⟩:∃pt,pt=((txtO z.o).take b).drop a:=⟨_,rfl⟩
     rw[←hpt] at HS1 HPL;have HPT:=lh hpt;clear hpt
     go_upto_region 25 with fail
     go_upto_region 26 with(go_at_call 17;refine(HA1 wr).out.mono ?_;rintro e w11 h11;obtain⟨rfl,x11⟩:=h11.v;clear h11;have X11:=lh x11;clear x11)
     go_upto_region 27 with(go_at_call 17;refine(HA2 w11).out.mono ?_;rintro e w12 h12;obtain⟨rfl,x12⟩:=h12.v;clear h12;have X12:=lh (X11.out.trans x12);clear x12)
     clear HA1 HA2 rc tc;obtain⟨rc,tc⟩:=HRC.out w12 X12.out
     go_upto_region 28 with(go_at_call 57;refine(HS1 w12 X12.out).out.mono ?_;rintro e w13 ⟨A13,c13,rfl,ho13,hr13,x13⟩;have HI13:=lh (IL.of_own ho13 hr13);have X13:=lh (X12.out.trans x13);clear ho13 hr13 x13)
     clear rc tc HS1;obtain⟨rc,tc⟩:=HRC.out w13 X13.out
     go_upto_region 29 with(go_at_call 57;refine(HS2 w13 X13.out).out.mono ?_;rintro e wa ⟨rfl,rfl⟩)
     go_upto_region 30 with(go_at_call 57;refine(HS3 w13 X13.out).out.mono ?_;rintro e wa ⟨rfl,rfl⟩)
     go_upto_region 31 with(go_at_call 57;refine(HS4 w13 X13.out).out.mono ?_;rintro e wa ⟨rfl,rfl⟩)
     clear HS2 HS3 HS4;have L1:=kc0 rc;have L2:=kc0 tc;have C1:=fun(W:World) (x:Ext w13 W)=>lh (olen_any W z.gr g z.k z.o (HQ.out.rp.ext HM (X13.out.trans x)));have C2:=fun(W:World) (x:Ext w13 W)=>lh (otext_any HM W z.gr z.k z.o (HQ.out.rp.ext HM (X13.out.trans x)) HQ.out.le);have C3:=fun(W:World) (x:Ext w13 W) (B:Option Addr) (d':Nat) (hi:IL W B d' (txtO z.o))=>lh (sameInts_any B z.A d' z.c (txtO z.o) (txtO z.o) W hi (HQ.out.il.ext (X13.out.trans x)));have C4:=fun(W:World) (x:Ext w13 W)=>lh (sameInts_any A13 (dropI z.A z.c a) c13 (z.c-a) pt (((txtO z.o).take b).drop a) W (HI13.out.ext x) (IL.dropN (IL.take (HQ.out.il.ext (X13.out.trans x)) b) (by rw[List.length_take];omega)))
     rw[←HPT.out] at C4;simp only[beq_self_eq_true] at C3 C4;rw[hzn] at C1 C3;rw[HPL] at C4;have hcap:n≤z.c∧z.c≤9223372036854775807:=by have:=HQ.out.il.len;rw[hzn] at this;exact this
     refine Xr.start [] kr ?_;refine Xtk 0 ?_
     iterate 3(refine Xtn ?_)
     refine Xtk 5 ?_;refine Xcl 4 fun w15 hE15 hK15 K hKK=>?_;go_simp;refine(C1 w15 hK15.nil).out.mono ?_;rintro e _ ⟨rfl,rfl⟩;refine hKK _ _ (Ext.rfl' _) ?_;clear hKK;refine ptm ?_;refine Xtk 6 ?_;refine Xtn ?_
     iterate 4(first|refine Xtn ?_|refine Xsn ?_)
     first|refine Xtk 13 ?_|refine Xsk 13 ?_
     iterate 3(first|refine Xtn ?_|refine Xsn ?_)
     refine Xcl 12 fun w16 hE16 hK16 K hKK=>?_;go_simp;refine(C2 w16 hK16.nil).out.mono ?_;rintro e w17 ⟨A17,c17,rfl,ho17,hr17,x17⟩;have HI17:=lh (IL.of_own ho17 hr17);refine hKK _ _ x17 ?_;clear hKK ho17 hr17;refine ptm ?_;rw[hzn];refine Xcl 17 fun w18 hE18 hK18 K hKK=>?_;go_simp;refine(C3 w18 hK18.nil A17 c17 (HI17.out.ext hE18)).out.mono ?_;rintro e w19 h19;obtain⟨rfl,x19⟩:=h19.v;clear h19;refine hKK _ _ x19 ?_;clear hKK;refine ptm ?_
     first|refine Xtk 18 ?_|refine Xsk 18 ?_
     iterate 2(refine Xtn ?_)
     iterate 2(first|refine Xtn ?_|refine Xsn ?_)
     iterate 2(refine Xtn ?_)
     iterate 7(first|refine Xtn ?_|refine Xsn ?_)
     refine Xr.take 32 (some 201) (v:=.slice (dropI z.A z.c a) ((b-a:Nat)) (z.c-a)) rfl rfl dK (by rfl) (fun w' hk=>by
      clear C1 C2 C3 C4 L1 L2 HPL hzn HNL;by_cases hca:z.c=a
      ·have e1:dropI z.A z.c a=z.A:=by unfold dropI;rw[if_pos hca]
       rw[e1];go_simp;intro h;exact absurd h om
      ·have e1:dropI z.A z.c a=z.A.map (fun x=>x.add a):=by unfold dropI;rw[if_neg hca]
       rw[e1];go_simp;intro h;exact absurd h om) ?_
     refine ptm ?_;refine Xcl 33 fun w20 hE20 hK20 K hKK=>?_;go_simp;refine(C4 w20 hK20.nil).out.mono ?_;rintro e w21 h21;obtain⟨rfl,x21⟩:=h21.v;clear h21;refine hKK _ _ x21 ?_;clear hKK;refine ptm ?_
     first|refine Xtk 34 ?_|refine Xsk 34 ?_
     iterate 2(refine Xtn ?_)
     iterate 2(first|refine Xtn ?_|refine Xsn ?_)
     iterate 2(refine Xtn ?_)
     iterate 2(first|refine Xtn ?_|refine Xsn ?_)
     iterate 2(refine Xtn ?_)
     iterate 2(first|refine Xtn ?_|refine Xsn ?_)
     refine Xtn ?_;refine Xdn fun w22 hE22 hK22=>?_;have X22:=lh (HXR.out.trans (X13.out.trans hK22.nil));clear C1 C2 C3 C4 L1 L2 hE15 hK15 hE16 hK16 x17 hE18 hK18 x19 hE20 hK20 x21 hE22 hK22
     go_wp2_with fail
     go_roundw
     case rel=>exact⟨j+1,by go_num,om,X22⟩
     case measure=>simp[intOf];omega
    ·have hle2:(l.length:Int)≤j:=om;have HLV:=lh (rlives_any wr);clear hlt
     go_wp2_with (go_at_call 52;refine HLV.out.mono ?_;rintro e w14 ⟨rfl,x14⟩;have HX14:=lh (HX1.out.trans (XW.out.trans x14));clear x14)
     go_ret
     exact⟨rfl,HX14.out⟩
end
section
open Go.RowKit
attribute [local go_sem ↓] Go.wp_at_zero Go.wp_at_succ
theorem RetEd.okH {S:World→Nat→List Int→Prop}{ok:Int→Prop}{g:Nat}{o:Option Sh}{a d:Int}{l:List Int}{w:World}{e:Ending}{w':World}(h:RetEd S ok g o a d l w e w')(he:editErr (txtO o).length a d l=0):RetRp S ok g (edS o a.toNat d.toNat l).1 (edS o a.toNat d.toNat l).2 w e w':=by
 rcases h with h|h
 ·exact absurd he h.1
 ·exact h.2
theorem RetEd.badH {S:World→Nat→List Int→Prop}{ok:Int→Prop}{g:Nat}{o:Option Sh}{a d:Int}{l:List Int}{w:World}{e:Ending}{w':World}(h:RetEd S ok g o a d l w e w')(he:editErr (txtO o).length a d l≠0):e=.returned (.tuple #[.pointer none,.int .i64 (editErr (txtO o).length a d l)])∧Ext w w':=by
 rcases h with h|h
 ·exact h.2
 ·exact absurd h.1 he
theorem ropeBounds_any (w:World)(A0:Option Addr)(c0:Nat)(l0:List Int)(times long:Int)(A3:Option Addr)(c3:Nat)(l3:List Int)(i0:IL w A0 c0 l0)(i3:IL w A3 c3 l3)(ht:I64 times)(hl:I64 long) :
 Calls Tryz.prog 9 #[.slice A0 l0.length c0,.int .i64 times,.int .i64 long,.slice A3 l3.length c3] w (RetV (.bool true) w):=by
 have HW:=lh (word_any w);have HI0:=lh i0;have HI3:=lh i3;have HTX:=fun(W:World) (x:Ext w W)=>lh (eText_any W A0 c0 l0 (HI0.out.ext x) times ht);have HTB:=lh (text25_bd l0 times);have HTL:=lh (text25_len l0 times);have hr:=around_bd long 3000 om;have HA:=fun(W:World)=>lh (around_any long 3000 W hl om om);obtain⟨r,hr6,hre⟩:∃r:Nat,r<3000∧around long 3000=(r:Int):=⟨(around long 3000).toNat,om,om⟩;rw[hre] at HA;generalize text25 l0 times=p at *;clear hr hre hl ht i0 i3;obtain⟨iz0,hi0,hz0,hz1,hz2⟩:=info_parts infoInt;go_enter Tryz.func9,Tryz.ntmps9
 go_upto_region 2 with(go_at_call 43;refine HW.out.mono ?_;rintro e w1 ⟨x1,g,m,strt,R,rfl,hn⟩;have HX1:=lh x1;have HN:=lh hn;clear x1 hn)
 have HM:=HN.out.mo_;clear HW;refine Xr.start [] kr ?_;refine Xtk 0 ?_;refine Xtk 3 ?_;refine Xtn ?_;refine Xcl 1 fun w4 hE4 hK4 K hKK=>?_;go_simp;refine(HA w4).out.mono ?_;rintro e w5 h5;obtain⟨rfl,x5⟩:=h5.v;clear h5;refine hKK _ _ x5 ?_;clear hKK;refine ptm ?_;refine Xr.lazy 2 20 6 (fun q=>.slice (some ⟨q,0,none⟩) r r) 3 (List.replicate r (.int .i64 0)).toArray rfl (fun b hb=>by cases hb) dK si (fun w'=>by have hmk:=mkI r om w';go_simp) ?_;refine Xcl 5 fun w7 hE7 hK7 K hKK=>?_;go_simp;refine(HTX w7 (HX1.out.trans hK7.nil)).out.mono ?_;rintro e w8 ⟨B,d,rfl,hB,x8,_⟩;refine hKK _ _ x8 ?_;clear hKK;refine ptm ?_;refine Xr.stepZ rfl dK (fun _=>by rfl) (fun w9 g9 hE9 hK9 hg9 hB9 hno K hKK=>?_);have HO:OwnS w9 w1.heap.size 3 1 (some ⟨g9,0,none⟩) r r (List.replicate r (Value.int .i64 0)):=by
  have h:=OwnS.of_blk (n:=r) (c:=r) (size:=1) (base:=w1.heap.size) hB9 hg9 si (Nat.le_refl _) um
  simpa using h
 have h63:r+p.length≤maxLen:=by have:=HTL.out;unfold maxLen;omega
 have h8:(r+p.length)*8≤140737488355328:=by have:=HTL.out;omega
 have hpl:(p.map (Value.int .i64)).length=p.length*1:=by simp
 have hbs:w1.heap.size≤w9.heap.size:=hK9.nil.size;refine wp_app w9 _ _ _ rfl w1.heap.size 3 iz0 (.int .i64 0) 1 8 Tryz.underlying22 hi0 hz0 hz1 hz2 rfl om (some ⟨g9,0,none⟩) r r (List.replicate r (Value.int .i64 0)) rfl HO B p.length d (p.map (Value.int .i64)) rfl hpl (hB.ext hE9).cells (ints_one p) h63 h8 hbs ?_;intro A9 c9 w10 ho hg hat;refine hKK _ _ (WI_grown hg (fun i hi=>.inr ⟨(g9,g9+1),by simp,by simp at hi;subst hi;exact⟨Nat.le_refl _,Nat.lt_succ_self _⟩⟩)) (hK9.grownL hg (fun i hi=>.inr (by simp at hi;subst hi;exact hg9))) ?_;clear hKK;refine ptm ?_;refine Xtk 7 ?_;refine Xdn fun w11 hE11 hK11=>?_;obtain⟨ts,hts⟩:∃ts:List Int,ts=List.replicate r 0++p:=⟨_,rfl⟩;have hlen:r+p.length=ts.length:=by rw[hts];simp
 have hmap:List.replicate r (Value.int .i64 0)++p.map (Value.int .i64)=ts.map (Value.int .i64):=by rw[hts];simp
 have hb2:∀x∈ts,0≤x∧x≤200:=fun x hx=>by
  rw[hts] at hx;rcases List.mem_append.1 hx with hx|hx
  ·rw[List.eq_of_mem_replicate hx];omega
  ·exact HTB.out x hx
 have htl2:ts.length≤3240:=by have:=HTL.out;omega
 rw[hmap,hlen] at ho;rw[hlen];have HIT:=lh (IL.of_own (OwnS.ext ho hE11) (fun x hx=>I64_of (by have:=hb2 x hx;omega)));have HX11:=lh hK11.nil;have HBT:=lh hb2;have HTLL:=lh htl2;clear hts hlen hmap hb2 htl2 ho hE11 hK11 hg hat HO h63 h8 hpl hbs hE9 hK9 hB9 hno hg9 hB x8 hE7 hK7 x5 hE4 hK4 HTX HTB HTL HA HI0;have HNEW:=lh (onew_any HM w11 HX11.out A9 c9 ts HIT.out (ok200 HBT.out) (by have:=HTLL.out;omega))
 go_upto_region 4 with(go_at_call 45;refine HNEW.out.mono ?_;rintro e w12 ⟨gr,rfl,hr,x12⟩;have HR:=lh hr;have HX12:=lh (HX11.out.trans x12);have HIT2:=lh (HIT.out.ext x12);clear hr x12)
 obtain⟨to1,to2,_⟩:=treeS_ok ts;have to3:=treeS_made ts;generalize (treeS ts).1=o at *;generalize (treeS ts).2=kk at *;have htl:=HTLL.out;have HHI:=lh (high_any w12 to1 (by rw[to2];omega));rw[to2] at HHI;have HMA:=lh (omade_any w12 gr g kk o HR.out);have HHE:=lh (oheight_any w12 gr g kk o HR.out);have hmk1:(kk:Int)≤2*((ts.length:Int) / 16+1):=om;have HTO:=lh to1;have HTO2:=lh to2;clear to1 to2 to3 HNEW HIT
 go_upto_region 6 with(first|(go_at_call 46;refine HMA.out.mono ?_;rintro e w13 ⟨rfl,rfl⟩)|(go_at_call 48;refine HHE.out.mono ?_;rintro e w13 ⟨rfl,rfl⟩)|(go_at_call 47;refine HHI.out.mono ?_;rintro e w13 ⟨rfl,rfl⟩))
 have HED:=lh (eEdits_any w12 A9 c9 ts HIT2.out om A3 c3 l3 (HI3.out.ext (HX1.out.trans HX12.out)) 40 om);clear HMA HHE HHI hmk1 HI3
 go_upto_region 7 with(go_at_call 49;refine HED.out.mono ?_;rintro e w13 ⟨EA,ec,es,rfl,hel,heo,hea,x13⟩;have HEO:=lh heo;have HEA:=lh hea;have HR13:=lh (HR.out.ext HM x13);have HX13:=lh (HX12.out.trans x13);clear heo hea x13)
 clear HED HR HX12 HIT2;have HL0:=lh (show(txtO o).length≤65536 by rw[HTO2.out];omega);clear HTO2 HTLL HBT htl
 go_wp2
 go_loopw [11,14] (fun p i wr=>∃(j gr:Nat) (o:Option Sh) (kk:Nat),j≤es.length∧p=.pointer (some ⟨gr,0,none⟩)∧i=.int .i64 j∧Hid (AvO o)∧Hid ((txtO o).length≤65536)∧Hid (RpAt (SmT false exG3 g m strt) (fun x=>symV false x=true) wr gr g o kk)∧Hid (Ext w13 wr)) (fun _ i _=>es.length-(intOf i).toNat)
 case atStart=>exact⟨0,gr,o,kk,Nat.zero_le _,rfl,rfl,HTO,HL0,HR13,lh (Ext.rfl' _)⟩
 case round=>
  clear HR13 HTO HL0;obtain⟨j,gr,o,kk,hj,rfl,rfl,HTO,HL0,HR,HXR⟩:=hrel;by_cases hlt:j<es.length
  ·obtain⟨pb,po,rfl,q0,q1,q2⟩:=edit_cells (OwnS.cells (OwnS.ext HEO.out HXR.out)) hlt;obtain⟨ei,en⟩:=HEA.out es[j] (List.getElem_mem _);generalize es[j]=e0 at *;have HEI:=lh (ei.ext HXR.out);have HEN:=lh en;obtain⟨n1,n2,n3,n4,n5,n6⟩:=en;have HED:=lh (oedit_any HM wr (HX13.out.trans HXR.out) gr kk o HR.out HTO.out HL0.out e0.e.at_ e0.e.del e0.A e0.c e0.e.ins HEI.out (ok200 n1) (by unfold I64;omega) om);have hil:=n2;clear n1 n2 n3 n4 n5 n6 ei;by_cases he:editErr (txtO o).length e0.e.at_ e0.e.del e0.e.ins=0
   ·obtain⟨f1,f2,f3,f4,f5⟩:=editErr_ok he;obtain⟨s1,s2,s3⟩:=edS_ok (t:=o) (k:=e0.e.at_.toNat) (d:=e0.e.del.toNat) e0.e.ins HTO.out om;have HEK:=lh (HED.out.mono (fun e w h=>RetEd.okH h he));have s4:(txtO (edS o e0.e.at_.toNat e0.e.del.toNat e0.e.ins).1).length≤65536:=by rw[s2];simp only[List.length_append,List.length_take,List.length_drop];omega
    generalize (edS o e0.e.at_.toNat e0.e.del.toNat e0.e.ins).1=o2 at *;generalize (edS o e0.e.at_.toNat e0.e.del.toNat e0.e.ins).2=k2 at *;clear HED s2 f1 f2 f3 f4 f5 he;have HS1:=lh s1;have HS3:=lh s3;have HS4:=lh s4;clear s1 s3 s4
    go_upto_region 12 with(go_at_call 50;refine HEK.out.mono ?_;rintro e w14 ⟨gs,rfl,hrp,x14⟩;have HRP:=lh hrp;have HX14:=lh x14;clear hrp x14)
    have C1:=fun(W:World) (x:Ext w14 W)=>lh (oheight_any W gs g k2 o2 (HRP.out.ext HM x));have C2:=fun(W:World) (x:Ext w14 W)=>lh (olen_any W gs g k2 o2 (HRP.out.ext HM x));have C3:=fun(W:World) (x:Ext w14 W)=>lh (omade_any W gs g k2 o2 (HRP.out.ext HM x));have C4:=fun(W:World) (x:Ext w14 W)=>lh (oheight_any W gr g kk o (HR.out.ext HM (HX14.out.trans x)));have C5:=fun(W:World)=>lh (high_any W HS1.out HS4.out);have hh1:=AvO.hgt_le HS1.out HS4.out;have hh2:=AvO.hgt_le HTO.out HL0.out;have hs3:=HS3.out;generalize hgtO o2=H2 at *;generalize hgtO o=H1 at *;have L2c:=fun(w':World) (h:Kp [] w14 w')=>((HX14.out.trans h.nil).cell q2);generalize e0.e.ins.length=il at *;have v1:IntKind.i64.wrap ((il:Int) / 16)=(il:Int) / 16:=wj;have v2:IntKind.i64.wrap ((il:Int) / 16+1)=(il:Int) / 16+1:=wj;have v3:IntKind.i64.wrap (2*((il:Int) / 16+1))=2*((il:Int) / 16+1):=wj;refine Xr.start [] kr ?_;refine Xtk 0 ?_
    iterate 2(refine Xtn ?_)
    first|refine Xtn ?_|refine Xsn ?_
    first|refine Xtk 5 ?_|refine Xsk 5 ?_
    refine Xcl 4 fun w15 hE15 hK15 K hKK=>?_;go_simp;refine(C1 w15 hK15.nil).out.mono ?_;rintro e _ ⟨rfl,rfl⟩;refine hKK _ _ (Ext.rfl' _) ?_;clear hKK;refine ptm ?_;refine Xcl 6 fun w16 hE16 hK16 K hKK=>?_;go_simp;refine(C2 w16 hK16.nil).out.mono ?_;rintro e _ ⟨rfl,rfl⟩;refine hKK _ _ (Ext.rfl' _) ?_;clear hKK;refine ptm ?_;refine Xcl 7 fun w17 hE17 hK17 K hKK=>?_;go_simp;refine(C5 w17).out.mono ?_;rintro e _ ⟨rfl,rfl⟩;refine hKK _ _ (Ext.rfl' _) ?_;clear hKK;refine ptm ?_
    first|refine Xtk 8 ?_|refine Xsk 8 ?_
    iterate 2(refine Xtn ?_)
    first|refine Xtn ?_|refine Xsn ?_
    first|refine Xtk 13 ?_|refine Xsk 13 ?_
    first|refine Xtk 15 ?_|refine Xsk 15 ?_
    first|refine Xtk 20 ?_|refine Xsk 20 ?_
    iterate 8(first|refine Xtn ?_|refine Xsn ?_)
    refine Xcl 12 fun w18 hE18 hK18 K hKK=>?_;go_simp;refine(C3 w18 hK18.nil).out.mono ?_;rintro e _ ⟨rfl,rfl⟩;refine hKK _ _ (Ext.rfl' _) ?_;clear hKK;refine ptm ?_;refine Xcl 14 fun w19 hE19 hK19 K hKK=>?_;go_simp;refine(C4 w19 hK19.nil).out.mono ?_;rintro e _ ⟨rfl,rfl⟩;refine hKK _ _ (Ext.rfl' _) ?_;clear hKK;refine ptm ?_;refine Xcl 16 fun w20 hE20 hK20 K hKK=>?_;go_simp;refine(C1 w20 hK20.nil).out.mono ?_;rintro e _ ⟨rfl,rfl⟩;refine hKK _ _ (Ext.rfl' _) ?_;clear hKK;refine ptm ?_;obtain⟨mx,hmx⟩:∃mx:Nat,mx=max H1 H2:=⟨_,rfl⟩
    rw[←hmx] at hs3;have hmx2:mx≤1000:=om;have hq:(mx=H2∧(H1:Int)<(H2:Int))∨(mx=H1∧¬((H1:Int)<(H2:Int))):=om;have hfin:¬((k2:Int)>40*((mx:Int)+2)+2*((il:Int) / 16+1)):=om;have hkk2:(k2:Int)≤1000000:=om;clear hmx hs3;have v4:IntKind.i64.wrap ((mx:Int)+2)=(mx:Int)+2:=wj;have v5:IntKind.i64.wrap (40*((mx:Int)+2))=40*((mx:Int)+2):=wj;have v6:IntKind.i64.wrap (40*((mx:Int)+2)+2*((il:Int) / 16+1))=40*((mx:Int)+2)+2*((il:Int) / 16+1):=wj;refine Xr.take 17 (some 92) (v:=.int .i64 (mx:Int)) rfl rfl dK (by rfl) (fun w' hk=>by
     clear hfin hmx2;rcases hq with⟨rfl,h⟩|⟨rfl,h⟩
     ·go_simp
      all_goals omega
     ·go_simp
      all_goals omega) ?_
    refine ptm ?_;clear hq
    first|refine Xtk 18 ?_|refine Xsk 18 ?_
    first|refine Xtn ?_|refine Xsn ?_
    first|refine Xtk 29 ?_|refine Xsk 29 ?_
    first|refine Xtn ?_|refine Xsn ?_
    refine Xtn ?_;refine Xdn fun w21 hE21 hK21=>?_;have HX21:=lh (HX14.out.trans hK21.nil);have HR21:=lh (HRP.out.ext HM hK21.nil);clear v1 v2 v3 v4 v5 v6 C1 C2 C3 C4 C5 L2c hE15 hE16 hE17 hE18 hE19 hE20 hE21 hK15 hK16 hK17 hK18 hK19 hK20 hK21 HRP
    go_wp2_with fail
    go_roundw
    case rel=>exact⟨j+1,gs,o2,k2,om,rfl,by go_num,HS1,HS4,HR21,lh (HXR.out.trans HX21.out)⟩
    case measure=>simp[intOf];omega
   ·have hne:=he;have HEK:=lh (HED.out.mono (fun e w h=>RetEd.badH h hne));clear HED he;generalize editErr (txtO o).length e0.e.at_ e0.e.del e0.e.ins=er at *
    go_wp2_with (go_at_call 50;refine HEK.out.mono ?_;rintro e w14 ⟨rfl,x14⟩;have HX14:=lh x14;clear x14)
    go_roundw
    case rel=>exact⟨j+1,gr,o,kk,om,rfl,by go_num,HTO,HL0,lh (HR.out.ext HM HX14.out),lh (HXR.out.trans HX14.out)⟩
    case measure=>simp[intOf];omega
  ·have hle:(es.length:Int)≤j:=om;have HLV:=lh (rlives_any wr)
   go_wp2_with (go_at_call 52;refine HLV.out.mono ?_;rintro e w14 ⟨rfl,x14⟩;have HX14:=lh (HX1.out.trans (HX13.out.trans (HXR.out.trans x14)));clear x14)
   go_ret
   exact⟨rfl,HX14.out⟩
end
end Go.Proofs.YtmocoldobnimfaaGreat
