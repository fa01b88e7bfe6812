/- Texts of this proof: K9 UE. -/
import Derived.Test.YtmgpefenkilffaaGreatSW08
import Derived.Test.YtmgpefenkilffaaGreatSW14
set_option linter.all false
set_option maxRecDepth 100000
set_option maxHeartbeats 16000000
namespace Go.Proofs.YtmgpefenkilffaaGreat
section
open Go.RowKit
attribute [local go_sem ↓] Go.wp_at_zero Go.wp_at_succ
theorem ok1 {runes:Bool}{caps:Int}{n:Nat}{zl:List Sp}:InsOk runes caps n ⟨1,0,0,0,zl⟩<->validE zl=0/\∀s,zl.getLast? = some s->s.2<=topV runes:=by
 constructor
 ·intro h;rcases h.2.2.2.2 with h|⟨_,h,h'⟩|⟨h,_⟩|⟨h,_⟩|⟨h,_⟩|⟨h,_⟩
  ·simp at h
  ·exact⟨h,h'⟩
  ·simp at h
  ·simp at h
  ·simp at h
  ·simp at h
 ·exact fun h=>⟨.inl rfl,.inr rfl,.inr (.inr rfl),.inr (.inr rfl),.inr (.inl ⟨rfl,h⟩)⟩
def RetStt (sb:Nat)(N:Int)(dn:Bool)(w:World)(e:Ending)(w':World):Prop:=∃b,e=.returned (.agg #[.pointer (some ⟨sb,0,none⟩),.pointer (some ⟨b,0,none⟩)])/\w.heap.size<=b/\(grp b N (if dn=true then N else -1) none 0 .nil).At w'/\Ext w w'
theorem start_any (gs:Nat)(h:Hst)(op:Int)(sb:Nat)(dn:Bool)(w:World)(st:Blk w gs 126 (strC h op))(hm:w.cell? ⟨h.gm,5,none⟩=some (.pointer (some ⟨sb,0,none⟩)))(hz:w.cell? ⟨sb,1,none⟩=some (.bool dn))(hN:0<=h.len/\h.len<=1000000) :
 Calls Tryz.prog 66 #[.pointer (some ⟨gs,0,none⟩)] w (RetStt sb h.len dn w):=by
 obtain⟨gm,RA,n,rc,len,bg,cl⟩:=h
 simp only at hm hN ⊢
 have BR:=Blk.new w 140 #[.pointer none,.pointer none];have ER:=Ext.alloc w (.cells #[.pointer none,.pointer none] 140);have st1:=st.ext ER;have s0:(w.alloc (.cells #[.pointer none,.pointer none] 140)).cell? ⟨gs,0,none⟩=some (.pointer (some ⟨gm,0,none⟩)):=st1.cell 0;have s2:(w.alloc (.cells #[.pointer none,.pointer none] 140)).cell? ⟨gs,2,none⟩=some (.int .i64 len):=st1.cell 2;have hm1:=ER.cell hm;have hz1:=ER.cell hz;have hgs:=st.lt;have hgm:=World.block_lt_of_cell? _ _ hm;have hsb:=World.block_lt_of_cell? _ _ hz
 simp only at hgm hsb
 clear st st1 hm hz;have HLO:=fun(e:Int) (w':World) (h1 : -1<=e) (h2:I64 e)=>lh (lone_any len e hN.1 h1 (by unfold I64;omega) h2 w');cases dn
 all_goals
  go_enter Tryz.func66,Tryz.ntmps66
  go_upto_region 4 with fail
  obtain⟨gR,hgR⟩:∃g,g=w.heap.size:=⟨_,rfl⟩
  rw[<-hgR] at BR ⊢;have hg1:gs≠gR:=om;have hg2:gm≠gR:=om;have hg3:sb≠gR:=om;have hg4:w.heap.size<=gR:=om;clear hgR;generalize w.alloc (.cells #[.pointer none,.pointer none] 140)=w1 at *;have j0:∀w',Kp [gR] w1 w'->w'.cell? ⟨gs,0,none⟩=some (.pointer (some ⟨gm,0,none⟩)):=fun w' h=>h.cell s0 (by simpa using hg1);have j2:∀w',Kp [gR] w1 w'->w'.cell? ⟨gs,2,none⟩=some (.int .i64 len):=fun w' h=>h.cell s2 (by simpa using hg1);have j5:∀w',Kp [gR] w1 w'->w'.cell? ⟨gm,5,none⟩=some (.pointer (some ⟨sb,0,none⟩)):=fun w' h=>h.cell hm1 (by simpa using hg2);clear s0 s2 hm1 hz1;refine Xr.start [gR] kr ?_;refine Xtk 0 ?_
  iterate 11(refine Xtn ?_)
  refine Xcl 12 fun w4 hE4 hK4 K hKK=>?_;go_simp;refine(HLO _ w4 om (by unfold I64;omega)).out.mono ?_;rintro en w5 ⟨b,rfl,hb,hA,x5⟩;refine hKK _ _ x5 ?_;clear hKK;refine ptm ?_;refine Xtk 13 ?_;refine Xsp 14 fun w6 hE6 hK6 K hKK=>?_;have BR6:=((BR.ext hE4).ext x5).ext hE6;have c0:w6.cell? ⟨gR,0,none⟩=some (.pointer none):=BR6.cell 0;have c1:w6.cell? ⟨gR,1,none⟩=some (.pointer none):=BR6.cell 1;have f0:=BR6.frz 0;have f1:=BR6.frz 1;go_simp;refine hKK _ _ (WI_setL (WI_setL (WI_refl _ _ _) List.mem_cons_self _ _) List.mem_cons_self _ _) ((hK6.setL List.mem_cons_self _ _).setL List.mem_cons_self _ _) ?_;clear hKK;refine ptm ?_;refine Xdn fun w7 hE7 hK7=>?_;have BR7:=((BR6.set 0 (.pointer (some ⟨sb,0,none⟩))).set 1 (.pointer (some ⟨b,0,none⟩))).ext hE7;have d0:w7.cell? ⟨gR,0,none⟩=some (.pointer (some ⟨sb,0,none⟩)):=by have:=BR7.cell 0;simpa using this
  have d1:w7.cell? ⟨gR,1,none⟩=some (.pointer (some ⟨b,0,none⟩)):=by have:=BR7.cell 1;simpa using this
  have hbx:∀(e:Int),∀x∈(grp b len e none 0 .nil).fp,¬x=gR:=fun e x hx=>by
   have:x=b:=by simpa[grp,Fo.fp,blkL] using hx
   have:=(BR.ext hE4).lt;omega
  have hA7:=((((hA.ext hE6).kp (KpP.set (p:=(·=gR)) (x:=⟨gR,0,none⟩) (KpP.refl _ _) (.inl rfl) (.pointer (some ⟨sb,0,none⟩))) (hbx _)).kp (KpP.set (p:=(·=gR)) (x:=⟨gR,1,none⟩) (KpP.refl _ _) (.inl rfl) (.pointer (some ⟨b,0,none⟩))) (hbx _)).ext hE7);have X7:=(((((ER.trans hE4).trans x5).trans hE6).setNew (p:=⟨gR,0,none⟩) hg4 (.pointer (some ⟨sb,0,none⟩))).setNew (p:=⟨gR,1,none⟩) hg4 (.pointer (some ⟨b,0,none⟩))).trans hE7;have hwb:=(ER.trans hE4).size;have HF:=lh (And.intro (Nat.le_trans hwb hb) (And.intro hA7 X7));clear hA7 X7 hA hbx BR7 BR6 c0 c1 f0 f1 BR ER hE4 hK4 x5 hE6 hK6 hE7 hK7
  go_wp2_with fail
  exact bodyPost_ret (v:=.agg #[.pointer (some ⟨sb,0,none⟩),.pointer (some ⟨b,0,none⟩)]) (by simp[results,Tryz.results66,go_sem,d0,d1]) rfl ⟨b,rfl,HF.out⟩
end
end Go.Proofs.YtmgpefenkilffaaGreat
