/- Texts of this proof: UZ UI UK UL UO UQ UR VD. -/
import Derived.Test.YtmgpefenkilffaaGreatSW15
import Derived.Test.YtmgpefenkilffaaGreatSW44
set_option linter.all false
set_option maxRecDepth 100000
set_option maxHeartbeats 16000000
namespace Go.Proofs.YtmgpefenkilffaaGreat
section
open Go.RowKit
attribute [local go_sem ↓] Go.wp_at_zero Go.wp_at_succ
def goodSU (s:Sp):Prop:=-1000000000<=s.1/\s.1<=1000000000/\-1000000000<=s.2/\s.2<=1000000000
def RetNc (hs:List Hin)(rn:Bool)(w:World)(e:Ending)(w':World):Prop:=∃gc cd,e=.returned (.pointer (some ⟨gc,0,none⟩))/\CdAt w' gc cd/\cd.rn=rn/\insL cd.hs=insL hs/\CdOk cd/\Ext w w'/\∀w'',KpP (fun b=>b<w.heap.size) w' w''->CdAt w'' gc cd
theorem newCode_any (A:Option Addr)(c:Nat)(hs:List Hin)(rn runes:Bool)(caps:Int)(hG:GOk runes caps (insL hs))(w:World)(hp:PL w A c hs)(hsz:∀h∈hs,h.l.length<=40)(hgd:∀h∈hs,∀s∈h.l,-1000000000<=s.1/\s.1<=1000000000/\-1000000000<=s.2/\s.2<=1000000000) :
 Calls Tryz.prog 63 #[.agg #[.slice A hs.length c,.int .i64 caps,.bool rn]] w (RetNc hs rn w):=by
 have hn8:=hG.len;rw[insL_len] at hn8;obtain⟨iI,jI0,jI1,jI2,jI3⟩:=info_parts infoNk;have hcap:=hp.len;have BG:=Blk.new w 35 #[.slice A hs.length c,.int .i64 caps,.bool rn];have EG:=Ext.alloc w (.cells #[.slice A hs.length c,.int .i64 caps,.bool rn] 35);have HP:=lh hp;have HG:=lh hG;have HSZ:=lh hsz;have HGD:=lh hgd;clear hp hG hsz hgd;go_enter Tryz.func63,Tryz.ntmps63
 go_upto_region 1 with fail
 obtain⟨g1,hg1⟩:∃g,g=w.heap.size:=⟨_,rfl⟩
 rw[<-hg1] at BG ⊢;clear hg1;generalize w.alloc (.cells #[.slice A hs.length c,.int .i64 caps,.bool rn] 35)=w1 at *;have b0:w1.cell? ⟨g1,0,none⟩=some (.slice A hs.length c):=BG.cell 0;have b2:w1.cell? ⟨g1,2,none⟩=some (.bool rn):=BG.cell 2;have j0:=kc0 b0;have j2:=kc0 b2;have HCI:=fun(w':World) (x:Ext w1 w')=>lh (cloneInsn_any A c hs w' (HP.out.ext (EG.trans x)) om om);refine Xr.start [] kr ?_;refine Xtk 0 ?_
 iterate 3(refine Xtn ?_)
 refine Xcl 4 fun w4 hE4 hK4 K hKK=>?_;go_simp;refine(HCI w4 hE4).out.mono ?_;rintro en w5 ⟨A',c',rfl,ho5,x5⟩;refine hKK _ _ x5 ?_;clear hKK;refine ptm ?_;refine Xtk 5 ?_;refine Xcl 6 fun w6 hE6 hK6 K hKK=>?_;have BC:=Blk.new w6 136 #[.slice A' hs.length c',.bool rn,.slice none 0 0,.slice none 0 0];have EC:=Ext.alloc w6 (.cells #[.slice A' hs.length c',.bool rn,.slice none 0 0,.slice none 0 0] 136);go_simp;refine hKK _ _ EC ?_;clear hKK;obtain⟨gc,hgc⟩:∃g,g=w6.heap.size:=⟨_,rfl⟩
 rw[<-hgc] at BC ⊢;have X6:=((EG.trans hE4).trans x5).trans hE6;have hgc0:w.heap.size<=gc:=by have:=X6.size;omega
 clear hgc;generalize w6.alloc (.cells #[.slice A' hs.length c',.bool rn,.slice none 0 0,.slice none 0 0] 136)=w7 at *;refine ptm ?_;refine Xtk 7 ?_;refine Xdn fun w8 hE8 hK8=>?_;have hcc:hs.length<=c'/\c'<=9223372036854775807:=OwnS.caps ho5;have HM0:Hid (NcM ⟨gc,hs,rn,A',c',w⟩ w8 0 0 hs none 0 []):=lh ⟨BC.ext hE8,OwnS.ext (OwnS.downU ho5 (EG.trans hE4).size) (hE6.trans (EC.trans hE8)),rfl,rfl,fun i hi h=>om,fun i hi hi2 _=>rfl,OwnS.nil _ _ _ _,fun i hi h=>om,by simp,X6.trans (EC.trans hE8),hgc0⟩;obtain⟨ga,hga⟩:∃ga,A'=some ⟨ga,0,none⟩:=by
  rcases OwnS.form ho5 with⟨_,h0,_⟩|⟨g,cur,h1,_⟩
  ·omega
  ·exact⟨g,h1⟩
 clear j0 j2 b0 b2 BG HCI hE4 hK4 ho5 x5 hE6 hK6 BC EC X6 hE8 hK8 EG;subst hga;have c0:w8.cell? ⟨gc,0,none⟩=some (.slice (some ⟨ga,0,none⟩) hs.length c'):=HM0.out.bc.cell 0
 go_upto_region 3 with fail
 clear c0
 go_loopw [20] (fun v wr=>∃(k:Nat) (hs':List Hin) (cA:Option Addr) (cc:Nat) (cuts:List Int),v=.int .i64 k/\k<=hs.length/\Hid (NcM ⟨gc,hs,rn,some ⟨ga,0,none⟩,c',w⟩ wr k k hs' cA cc cuts)/\cuts.length<=80*k) (fun v _=>hs.length-(intOf v).toNat)
 case atStart=>exact⟨0,hs,none,0,[],rfl,om,HM0,by simp⟩
 case round=>
  obtain⟨k,hs',cA,cc,cuts,rfl,hk,HM,hcl⟩:=hrel;by_cases hlt:k<hs.length
  ·have hkI:(k:Int)<hs.length:=om;have hl':hs'.length=hs.length:=HM.out.hl;have hk':k<hs'.length:=om;have c0:wr.cell? ⟨gc,0,none⟩=some (.slice (some ⟨ga,0,none⟩) hs.length c'):=HM.out.bc.cell 0;have hhk:hs'[k]=hs[k]:=HM.out.old k hk' hlt (Nat.le_refl _);have hj:k*5+4<(flatN hs').length:=by rw[flatN_len];omega
   obtain⟨g',he,_,c4,f4,_,_⟩:=OwnS.store HM.out.bi hj;have hgg:g'=ga:=by simp only at he;injection he with h;injection h with h;exact h.symm
   subst hgg;have hfl:=(flatN_get hs' k hk').2.2.2.2;obtain⟨_,hf2⟩:=List.getElem?_eq_some_iff.1 hfl;rw[hf2] at c4;rw[hhk] at c4;have hm:=List.getElem_mem hlt;have hsl:SL wr hs[k].A hs[k].c hs[k].l:=(HP.out.sl _ hm).ext HM.out.x;have hs40:=HSZ.out _ hm;have hsgd:=HGD.out _ hm;have HCL:=lh (cloneS_any hs[k].A hs[k].c hs[k].l wr hsl om);have HRK:=lh (show ∃h:k<hs'.length,hs'[k]=hs[k] from⟨hk',hhk⟩);have HRK2:=lh (show ∀(i:Nat) (h:i<hs.length),i=k->hs[i]=hs[k] from fun i h e=>by subst e;rfl);obtain⟨hh,hhh⟩:∃hh,hs[k]=hh:=⟨_,rfl⟩;simp only[hhh] at c4 hsl hs40 hsgd HCL HRK HRK2;obtain⟨hop,hx,hy,hn,hhA,hc,hl⟩:=hh
   simp only at c4 hsl hs40 hsgd HCL
   have hslc:=hsl.len;have KF:=fun(w2:World) (x2:Ext wr w2)=>(show w2.frozen? ⟨g',k*5+4,none⟩=false by
    obtain⟨g9,he9,_,_,h9,_⟩:=OwnS.store (OwnS.ext HM.out.bi x2) hj;have:g9=g':=by simp only at he9;injection he9 with h;injection h with h;exact h.symm
    rw[this] at h9;exact h9)
   clear hf2 hfl he hj hhk hm hhh hsl
   go_upto_region 6 with(go_at_call 131;refine HCL.out.mono ?_;rintro e w2 ⟨B,cB,rfl,hoB,x2⟩;have c4':=x2.cell c4;have c0':=x2.cell c0;have f4':=KF _ x2)
   obtain⟨hk2,hrk⟩:=HRK.out;have hlk:hs'[k].l=hl:=by rw[hrk]
   have HM3:=lh ((HM.out.ext x2).clone hk2 (B:=B) (c:=cB) (by rw[hlk];exact OwnS.downU hoB HM.out.x.size) rfl);rw[hlk] at HM3;obtain⟨hs2,hhs2⟩:∃hs2,hs2=hs'.set k ⟨hs'[k].op,hs'[k].x,hs'[k].y,hs'[k].n,B,cB,hl⟩:=⟨_,rfl⟩
   rw[<-hhs2] at HM3;have HK2:=lh (show ∃h:k<hs2.length,hs2[k].A=B/\hs2[k].c=cB/\hs2[k].l=hl by
    have h1:k<hs2.length:=by rw[hhs2,List.length_set];exact hk2
    refine⟨h1,?_⟩;simp only[hhs2,List.getElem_set_self];exact⟨trivial,trivial,trivial⟩)
   clear hhs2 c4 f4 c0 KF HCL hoB
   go_upto_region 7 with fail
   clear c4' c0' f4' hrk hlk;generalize w2.setCell ⟨g',k*5+4,none⟩ (.slice B hl.length cB)=w3 at *;clear HM x2
   go_upto_region 8 with fail
   go_loopw [42] (fun v wq=>∃(j:Nat) (cA2:Option Addr) (cc2:Nat) (cuts2:List Int),v=.int .i64 j/\j<=hl.length/\Hid (NcM ⟨gc,hs,rn,some ⟨g',0,none⟩,c',w⟩ wq (k+1) k hs2 cA2 cc2 cuts2)/\cuts2.length<=80*k+2*j/\Hid (∀s∈hl.take j,s.1∈cuts2/\s.2+1∈cuts2)) (fun v _=>hl.length-(intOf v).toNat)
   case atStart=>exact⟨0,cA,cc,cuts,rfl,om,HM3,om,lh si⟩
   case round=>
    obtain⟨j,cA2,cc2,cuts2,rfl,hj,HM4,hcl4,HME⟩:=hrel;by_cases hltj:j<hl.length
    ·have hjI:(j:Int)<hl.length:=om;obtain⟨hk9,e1,e2,e3⟩:=HK2.out;have hsl:SL wr B cB hl:=by
      have ho:OwnP wr w.heap.size hs2[k].A hs2[k].c hs2[k].l:=HM4.out.own k hk9 (Nat.lt_succ_self k);rw[e1,e2,e3] at ho;exact SL.of_own (base:=w.heap.size) ho (fun s hs=>by have:=hsgd s hs;exact⟨by unfold I64;omega,by unfold I64;omega⟩)
     obtain⟨sb,so,hB9,d0,d1⟩:=hsl.get hltj;have hsm:=hsgd _ (List.getElem_mem hltj);have HTK:=lh (show hl.take (j+1)=hl.take j++[hl[j]] from List.take_succ_eq_append_getElem hltj);generalize hl[j]=s at *;obtain⟨lo,hi⟩:=s
     simp only at d0 d1 hsm
     subst hB9;clear hsl e1 e2 e3 hk9;have BS:=Blk.new wr 81 #[.int .i64 lo,.int .i64 hi];have ES:=Ext.alloc wr (.cells #[.int .i64 lo,.int .i64 hi] 81)
     go_upto_region 10 with fail
     obtain⟨g7,hg7⟩:∃g,g=wr.heap.size:=⟨_,rfl⟩
     rw[<-hg7] at BS ⊢;have hg7w:∀b,b<wr.heap.size->b≠g7:=fun b hb e=>om;clear hg7 d0 d1;have hM5:=HM4.out.ext ES;have HM5:=lh hM5;generalize wr.alloc (.cells #[.int .i64 lo,.int .i64 hi] 81)=w5 at *;have s0:w5.cell? ⟨g7,0,none⟩=some (.int .i64 lo):=BS.cell 0;have s1:w5.cell? ⟨g7,1,none⟩=some (.int .i64 hi):=BS.cell 1;have hw1:IntKind.i64.wrap (hi+1)=hi+1:=wj;have nbc:=blk_blk BS hM5.bc de;have nbr:=own_blk hM5.ci BS de;have nA:=own_blk hM5.ci hM5.bc de;have j0:=fun(w':World) (h:Kp (gc::blkL cA2) w5 w')=>h.cell s0 (by simp only[List.mem_cons,mem_blkL,not_or];exact⟨nbc,nbr⟩);have j1:=fun(w':World) (h:Kp (gc::blkL cA2) w5 w')=>h.cell s1 (by simp only[List.mem_cons,mem_blkL,not_or];exact⟨nbc,nbr⟩);have HBC:=lh hM5.bc;have HCI2:=lh (show OwnS w5 w.heap.size 3 1 cA2 cuts2.length cc2 (cuts2.map (Value.int .i64)) from hM5.ci);have hws5:w.heap.size<=w5.heap.size:=hM5.x.size;clear s0 s1 hM5 nbc nbr;refine Xr.start (gc::blkL cA2) kr ?_;refine Xtk 0 ?_
     iterate 3(refine Xtn ?_)
     refine Xtk 5 ?_
     iterate 4(refine Xtn ?_)
     refine Xr.lazy 10 56 11 (fun q=>.slice (some ⟨q,0,none⟩) 2 2) 3 #[.int .i64 lo,.int .i64 (hi+1)] rfl (fun b hb=>?_) dK si (fun w'=>by go_simp) ?_
     ·rcases List.mem_cons.1 hb with rfl|hb
      ·exact HBC.out.lt
      ·exact(OwnS.blt HCI2.out (mem_blkL.1 hb)).1
     refine Xsp 4 fun w6 hE6 hK6 K hKK=>?_;have c44:w6.cell? ⟨gc,2,none⟩=some (.slice cA2 cuts2.length cc2):=(HBC.out.ext hE6).cell 2;go_simp;refine hKK _ _ (WI_refl _ _ _) hK6 ?_;clear hKK c44;refine ptm ?_;refine Xr.stepZ rfl dK (fun _=>by rfl) (fun w7 g77 hE7 hK7 hg77 hB7 hno K hKK=>?_);have x7:=hE6.trans hE7;refine wp_app _ _ _ _ rfl w.heap.size 3 iI (.int .i64 0) 1 8 Tryz.underlying22 jI0 jI1 jI2 jI3 rfl om cA2 cuts2.length cc2 (cuts2.map (Value.int .i64)) rfl (OwnS.ext HCI2.out x7) _ 2 2 [.int .i64 lo,.int .i64 (hi+1)] rfl rfl (blk_cells hB7) (by intro u hu;simp only[List.mem_cons,List.not_mem_nil,or_false] at hu;rcases hu with rfl|rfl<;>rfl) um om (Nat.le_trans hws5 x7.size) ?_;intro A9 c9 w9 ho9 hg9 hat9;refine hKK _ _ (WI_kp (KpP.of_grown hg9) (fun i hi=>List.mem_cons_of_mem _ (mem_blkL.2 hi))) (hK7.kpP (KpP.of_grown hg9) (fun i hi=>List.mem_cons_of_mem _ (mem_blkL.2 hi))) ?_;clear hKK;refine ptm ?_;refine Xtk 12 ?_;refine Xtn ?_;have bg9:=(KpP.of_grown hg9).blk (HBC.out.ext x7) nA;refine Xsp 14 fun w10 hE10 hK10 K hKK=>?_;have cg10:w10.cell? ⟨gc,2,none⟩=some (.slice cA2 cuts2.length cc2):=(bg9.ext hE10).cell 2;have fg10:=(bg9.ext hE10).frz 2;go_simp;refine hKK _ _ (WI_setL (WI_refl _ _ _) List.mem_cons_self _ _) (hK10.setL List.mem_cons_self _ _) ?_;clear hKK;refine ptm ?_;refine Xdn fun w11 hE11 hK11=>?_;have HM9:=lh ((HM5.out.put (u:=lo) (v:=hi+1) (by unfold I64;omega) (by unfold I64;omega) x7 (show OwnS w9 w.heap.size 3 1 A9 (cuts2++[lo,hi+1]).length c9 ((cuts2++[lo,hi+1]).map (Value.int .i64)) by rw[List.length_append,List.map_append];exact ho9) hg9 hat9 hE10).ext hE11)
     have HME9:=lh (show ∀s∈hl.take (j+1),s.1∈cuts2++[lo,hi+1]/\s.2+1∈cuts2++[lo,hi+1] by
      intro s hs;rw[HTK.out] at hs;rcases List.mem_append.1 hs with hs|hs
      ·obtain⟨h1,h2⟩:=HME.out s hs;exact⟨List.mem_append_left _ h1,List.mem_append_left _ h2⟩
      ·rw[List.mem_singleton.1 hs];exact⟨by simp,by simp⟩)
     clear bg9 cg10 fg10 ho9 hg9 hat9 hE11 hK11 hE10 hK10 x7 hE7 hK7 hE6 hK6 j0 j1 BS
     go_wp2_with fail
     go_roundw
     case rel=>exact⟨j+1,A9,c9,cuts2++[lo,hi+1],by go_num,om,HM9,by rw[List.length_append];simp only[List.length_cons,List.length_nil];omega,HME9⟩
     case measure=>simp[intOf];omega
    ·have hjI:¬(j:Int)<hl.length:=om;obtain rfl:j=hl.length:=om;have HM6:=lh (show NcM ⟨gc,hs,rn,some ⟨g',0,none⟩,c',w⟩ wr (k+1) (k+1) hs2 cA2 cc2 cuts2 by
      obtain⟨bc,bi,hl0,same,own,old,ci,me,wf,x,g0⟩:=HM4.out;refine⟨bc,bi,hl0,same,own,old,ci,fun i hi him s hsm2=>?_,wf,x,g0⟩;by_cases e:i=k
      ·subst e;have h1:=HME.out;rw[List.take_length] at h1;have h4:hs[i].l=hl:=by rw[HRK2.out i hi rfl]
       exact h1 s (by rw[<-h4];exact hsm2)
      ·exact me i hi om s hsm2)
     clear HM4 HME
     go_wp2_with fail
     go_roundw
     case rel=>exact⟨k+1,hs2,cA2,cc2,cuts2,by go_num,om,HM6,om⟩
     case measure=>simp[intOf];omega
  ·have hkI:¬(k:Int)<hs.length:=om;obtain rfl:k=hs.length:=om;have c2:wr.cell? ⟨gc,2,none⟩=some (.slice cA cuts.length cc):=HM.out.bc.cell 2;have hcl2:cuts.length<=1000000:=om;have HSO:=lh (sortI_any w.heap.size 3 cc cA cuts wr HM.out.ci hcl2);have HIL:=lh (incr_law cuts)
   go_upto_region 14 with(go_at_call 132;refine HSO.out.mono ?_;rintro e w2 ⟨rfl,ho2,k2⟩)
   have hl2:hs'.length=hs.length:=HM.out.hl;have HWF:=lh (show(∀z∈hs',z.wf)/\(∀z∈hs',∀s∈z.l,goodSU s) by
    refine⟨fun z hz=>?_,fun z hz s hsm2=>?_⟩
    ·obtain⟨i,hi,he⟩:=List.getElem_of_mem hz;have h1:=congrArg (fun l=>l[i]?) HM.out.same;simp only[List.getElem?_map,List.getElem?_eq_getElem hi,List.getElem?_eq_getElem (show i<hs.length by omega),Option.map_some,Option.some.injEq] at h1;have h2:=HP.out.rng _ (List.getElem_mem (show i<hs.length by omega))
     rw[<-he];exact⟨by rw[show hs'[i].op=hs[i].op from congrArg Ins.op h1];exact h2.1,by rw[show hs'[i].x=hs[i].x from congrArg Ins.x h1];exact h2.2.1,by rw[show hs'[i].y=hs[i].y from congrArg Ins.y h1];exact h2.2.2.1,by rw[show hs'[i].n=hs[i].n from congrArg Ins.n h1];exact h2.2.2.2⟩
    ·obtain⟨i,hi,he⟩:=List.getElem_of_mem hz;have h1:hs'[i].l=hs[i].l:=HM.out.lOf hi (show i<hs.length by omega)
     rw[<-he,h1] at hsm2;exact HGD.out _ (List.getElem_mem _) s hsm2)
   have HKE:=lh (fun(w':World) (kk:KpP (fun b=>cA.map (·.block)=some b\/b=gc\/b<w.heap.size) wr w')=>show OwnS w' w.heap.size 129 5 (some ⟨ga,0,none⟩) hs.length c' (flatN hs')/\(∀z∈hs',SL w' z.A z.c z.l) by
    have ci:=HM.out.ci;have bc:=HM.out.bc;have nI:∀{e size n c A xs},OwnS wr w.heap.size e size A n c xs->e≠3->e≠136->∀b,Option.map (fun a:Addr=>a.block) A=some b->¬(cA.map (·.block)=some b\/b=gc\/b<w.heap.size):=fun ho hT hT2 b hb e=>by
     obtain⟨_,cur,hh⟩:=OwnS.blt ho hb;rcases e with e|e|e
     ·exact own_blk ci (show Blk wr b _ cur from hh) hT.symm e
     ·exact blk_blk (show Blk wr b _ cur from hh) bc hT2 e
     ·have:=OwnS.row ho b hb;omega
    refine⟨OwnS.kp HM.out.bi kk (nI HM.out.bi de de),fun z hz=>?_⟩
    ·obtain⟨i,hi,he⟩:=List.getElem_of_mem hz;have ow:OwnS wr w.heap.size 81 2 hs'[i].A hs'[i].l.length hs'[i].c (flatS hs'[i].l):=HM.out.own i hi (show i<hs.length by omega);have ow2:=OwnS.kp ow kk (nI ow de de)
     rw[<-he];exact SL.of_own (base:=w.heap.size) ow2 (fun s hsm2=>by
      have:=HWF.out.2 _ (List.getElem_mem hi) s hsm2;unfold goodSU at this;exact⟨by unfold I64;omega,by unfold I64;omega⟩))
   have HKX:=lh (fun(w':World) (kk:KpP (fun b=>cA.map (·.block)=some b\/b=gc) wr w')=>show Ext w w' from HM.out.x.kp kk (fun i hi=>by
    rcases hi with hi|hi
    ·exact OwnS.row HM.out.ci i hi
    ·rw[hi];exact HM.out.g0))
   have nA:=own_blk HM.out.ci HM.out.bc de;have bc2:=k2.blk HM.out.bc nA;have c22:w2.cell? ⟨gc,2,none⟩=some (.slice cA cuts.length cc):=bc2.cell 2;have f22:=bc2.frz 2;have hsl:(cuts.mergeSort fun x y=>decide (x<=y)).length=cuts.length:=by simp
   have HCO:=lh (show Calls Tryz.prog 133 #[.slice cA cuts.length cc] w2 (fun r w'=>r=.returned (.slice cA (incr cuts).length cc)/\OwnI w' w.heap.size 3 cA cc (incr cuts)/\KpP (fun b=>cA.map (·.block)=some b) w2 w') by
    have h:=compactI_any w.heap.size 3 cc cA (cuts.mergeSort fun x y=>decide (x<=y)) w2 ho2 om (by have:=HIL.out.2.2;unfold incr at this;omega);rw[hsl] at h;exact h)
   have hk2:=k2;have CF:=fun(w3:World) (k3:KpP (fun b=>cA.map (·.block)=some b) w2 w3)=>And.intro ((k3.blk bc2 (own_blk (show OwnS w2 w.heap.size 3 1 cA (cuts.mergeSort fun x y=>decide (x<=y)).length cc ((cuts.mergeSort fun x y=>decide (x<=y)).map (Value.int .i64)) from ho2) bc2 de)).cell 2) ((k3.blk bc2 (own_blk (show OwnS w2 w.heap.size 3 1 cA (cuts.mergeSort fun x y=>decide (x<=y)).length cc ((cuts.mergeSort fun x y=>decide (x<=y)).map (Value.int .i64)) from ho2) bc2 de)).frz 2)
   go_upto_region 15 with(go_at_call 133;refine HCO.out.mono ?_;rintro e w3 ⟨rfl,ho3,k3⟩;have hc3:=CF w3 k3;have d3:w3.cell? ⟨gc,2,none⟩=some (.slice cA cuts.length cc):=hc3.1;have fr3:=hc3.2)
   have bc3:=k3.blk bc2 (own_blk (show OwnS w2 w.heap.size 3 1 cA (cuts.mergeSort fun x y=>decide (x<=y)).length cc ((cuts.mergeSort fun x y=>decide (x<=y)).map (Value.int .i64)) from ho2) bc2 de);have bc4:=bc3.set 2 (.slice cA (incr cuts).length cc);have k4:KpP (·=gc) w3 (w3.setCell ⟨gc,2,none⟩ (.slice cA (incr cuts).length cc)):=KpP.set (p:=(·=gc)) (x:=⟨gc,2,none⟩) (KpP.refl _ _) (.inl rfl) _;have ho4:=OwnS.kp ho3 k4 (fun b hb e=>own_blk ho3 bc3 de (by rw[hb];exact congrArg some e));have K4:KpP (fun b=>cA.map (·.block)=some b\/b=gc) wr (w3.setCell ⟨gc,2,none⟩ (.slice cA (incr cuts).length cc)):=KpP.trans (hk2.mono (fun i hi=>.inl hi)) (KpP.trans (k3.mono (fun i hi=>.inl hi)) (k4.mono (fun i hi=>.inr hi)));clear c2 c22 f22 hc3 d3 fr3 CF HCO HSO ho2 ho3 k2 k3 bc2 bc3 k4 hk2;have HB4:=lh (show Blk (w3.setCell ⟨gc,2,none⟩ (.slice cA (incr cuts).length cc)) gc 136 #[.slice (some ⟨ga,0,none⟩) hs'.length c',.bool rn,.slice cA (incr cuts).length cc,.slice none 0 0] by rw[hl2];simpa using bc4);have HO4:=lh (show OwnI (w3.setCell ⟨gc,2,none⟩ (.slice cA (incr cuts).length cc)) w.heap.size 3 cA cc (incr cuts) from ho4);have HK4:=lh K4;clear bc4 ho4 K4;generalize w3.setCell ⟨gc,2,none⟩ (.slice cA (incr cuts).length cc)=w4 at *;have hsame:insL hs'=insL hs:=HM.out.same;have HGN:=lh (show GOk runes caps (insL hs') by rw[hsame];exact HG.out);have HPK2:=lh (show ∀w',KpP (fun b=>b=gc\/b<w.heap.size) w4 w'->PL w' (some ⟨ga,0,none⟩) c' hs' by
    intro w' kk;obtain⟨h1,h2⟩:=HKE.out w' (KpP.trans (HK4.out.mono (fun i hi=>by
     rcases hi with hi|hi
     ·exact .inl hi
     ·exact .inr (.inl hi))) (kk.mono (fun i hi=>.inr hi)))
    rw[<-hl2] at h1;exact PL.of_own h1 HWF.out.1 h2)
   have HPK:=lh (show ∀w',KpP (·=gc) w4 w'->PL w' (some ⟨ga,0,none⟩) c' hs'/\Ext w w' from fun w' kk=>
    ⟨HPK2.out w' (kk.mono (fun i hi=>.inl hi)),HKX.out w' (KpP.trans HK4.out (kk.mono (fun i hi=>.inr hi)))⟩)
   have hw4:w.heap.size<=w4.heap.size:=(HPK.out w4 (KpP.refl _ _)).2.size;have HLD:=lh (lead_any3 gc (some ⟨ga,0,none⟩) c' hs' rn cA (incr cuts).length cc runes caps HGN.out w4 HB4.out (fun w' kk=>(HPK.out w' kk).1))
   go_wp2_with fail
   refine HLD.out.mono ?_;rintro e w5 ⟨rfl,gl,ls,hgl,hb5,hbl,hll,hls,k5⟩;have HF:=lh (show RetNc hs rn w (.returned (.pointer (some ⟨gc,0,none⟩))) w5 by
    obtain⟨hpl5,hx5⟩:=HPK.out w5 k5;have ho5:=OwnS.kp HO4.out k5 (fun b hb e=>own_blk HO4.out HB4.out de (by rw[hb];exact congrArg some e));have mk:∀w'',KpP (fun b=>b<w.heap.size) w5 w''->CdAt w'' gc ⟨some ⟨ga,0,none⟩,c',hs',rn,cA,cc,incr cuts,some ⟨gl,0,none⟩,hs'.length,ls⟩:=fun w'' kk=>by
     have hg2:¬gl<w.heap.size:=om;have hbl':=kk.blk hbl hg2;refine⟨by rw[hll];exact kk.blk hb5 om,HPK2.out w'' (KpP.trans (k5.mono (fun i hi=>.inl hi)) (kk.mono (fun i hi=>.inr hi))),IL.of_own (base:=w.heap.size) (OwnS.kp ho5 kk (fun b hb e=>by have:=OwnS.row ho5 b hb;omega)) (fun v hv=>HM.out.wf v ((HIL.out.2.1 v).1 hv)),⟨show ls.length<=hs'.length by omega,show hs'.length<=maxLen by unfold maxLen;omega,fun hne=>⟨gl,0,rfl,fun i hi=>?_⟩⟩⟩;have hi':i<ls.length:=hi;have:=hbl'.cell i;rw[Nat.zero_add,this];simp[bolC,hi']
    refine⟨gc,⟨some ⟨ga,0,none⟩,c',hs',rn,cA,cc,incr cuts,some ⟨gl,0,none⟩,hs'.length,ls⟩,rfl,mk w5 (KpP.refl _ _),rfl,hsame,⟨hll,HIL.out.1,fun z hz s hsm2=>?_,hls,show(incr cuts).length<=1000000 by have:=HIL.out.2.2;omega⟩,hx5,mk⟩
    ·obtain⟨i,hi,he⟩:=List.getElem_of_mem hz;have hi':i<hs'.length:=hi;have hi2:i<hs.length:=by rw[<-hl2];exact hi'
     have h1:hs'[i].l=hs[i].l:=HM.out.lOf hi hi2
     rw[<-he,h1] at hsm2;obtain⟨h2,h3⟩:=HM.out.me i hi2 hi2 s hsm2;exact⟨(HIL.out.2.1 _).2 h2,(HIL.out.2.1 _).2 h3⟩)
   clear hb5 hbl hll hls k5
   go_wp2_with fail
   go_ret
   exact HF.out
theorem infoPs:(Tryz.prog.info? 132).map (fun i=>(i.zero,i.size,i.bytes))=some (some (.pointer none),1,8):=by kernel_rfl
theorem OwnS.to0 {w:World}{base e size n c:Nat}{A:Option Addr}{xs:List Value}(h:OwnS w base e size A n c xs):OwnS w 0 e size A n c xs:=by
 refine⟨h.1,?_⟩;rcases h.2 with h|⟨g,cap,cur,h1,h2,h3⟩
 ·exact Or.inl h
 ·exact Or.inr ⟨g,cap,cur,h1,Nat.zero_le _,h3⟩
def zRun (n:Nat):Array Value:=madeCells #[.pointer none,.pointer none] (n*2)
theorem zRun_size (n:Nat):(zRun n).size=n*2:=by unfold zRun madeCells;simp
theorem mkRun (n:Nat)(h:n<=100000)(W:World):(Instr.makeSlice 124 (.int .i64 0) (.int .i64 ((n:Int)+1))).run Tryz.prog W=.ok (.slice (some ⟨W.heap.size,0,none⟩) 0 (n+1)) (W.alloc (.cells (zRun (n+1)) 140)):=by
 obtain⟨i0,hi0,hz0,hz1,hz2⟩:=info_parts infoRu;have e:((n:Int)+1)=((n+1:Nat):Int):=om;rw[e];have:=run_make (P:=Tryz.prog) W 124 140 i0 (.agg #[.pointer none,.pointer none]) Tryz.underlying124 hi0 hz0 .i64 .i64 0 ((n+1:Nat):Int) om om (by rw[hz2];omega) om;rw[this,hz1];simp only[Int.toNat_natCast]
 rfl
theorem KpP.extThen' {p:Nat->Prop}{a b c:World}(x:Ext a b)(h:KpP p b c):KpP p a c:=(KpP.of_ext x).trans h
structure SpO (w w':World)(F:Nat->Prop)(gs gr:Nat)(q:Mq)(N op mark rd:Int)(bg cl:Bool)(fv:Value)(sts:List Sta)(rs:List Ru)(A:Option Addr)(R0:List (Int×Int))(x:Int):Prop where
 ex:∃sts' RA rc rs' mark',StmI w' F gs q RA rc (N+1) (op+1-(shutI (decL q.cd.ls) (stepI (insL q.cd.hs) N x (itsR rs))).length) mark' (rd+1) bg cl fv sts' rs'/\(∃z∈sts',fv=ptrV z.b/\z.l=stateG (insL q.cd.hs) [0])/\
  (itsR rs').Perm (openI (decL q.cd.ls) (stepI (insL q.cd.hs) N x (itsR rs)))/\mark<=mark'/\mark'<=mark+rs.length/\sts'.length<=sts.length+rs.length
 res:∃A' c',RsAt w' gr A' c' (R0++resI (decL q.cd.ls) (stepI (insL q.cd.hs) N x (itsR rs)))/\(A'.map (·.block)=A.map (·.block)\/∀b,A'.map (·.block)=some b->w.heap.size<=b)
 kp:KpP (fun b=>F b\/b=gr\/A.map (·.block)=some b) w w'
theorem UIz1 {P:Prop} (h:P:=by
 clear ho12 hg12 hat12 HNW HM;obtain⟨nrs',hPN⟩:=HPN.out;go_roundw
 case rel=>exact⟨k+1,sts2,mark2,nrs',A12,d12,by go_num,om,by rfl,by rw[<-HLA.out];exact lh hPN⟩
 case measure=>simp[intOf];omega):P:=h
theorem step_any (w:World)(F:Nat->Prop)(gs gr:Nat)(q:Mq)(runes:Bool)(caps:Int)(hG:GOk runes caps (insL q.cd.hs))(RA:Option Addr)(rc:Nat)(N op mark rd:Int)(bg cl:Bool)(fv:Value)(sts:List Sta)(rs:List Ru)(A:Option Addr)(c:Nat)(R0:List (Int×Int))(x:Int)
 (hS:StmI w F gs q RA rc N op mark rd bg cl fv sts rs) (hf:∃z∈sts,fv=ptrV z.b/\z.l=stateG (insL q.cd.hs) [0]) (hC:∀w',KpP F w w'->CdAt w' q.gc q.cd) (hok:CdOk q.cd) (res:RsAt w gr A c R0) (hnb:∀b,w.heap.size<=b->F b)
 (hN:0<=N/\N<=100000) (hI:(itsR rs).length<=50000) (hst:sts.length<=4096) (hmk:0<=mark/\mark<=100000000) (hrd:0<=rd/\rd<=100000000) (hR:R0.length<=100000) (hop : -50000<=op/\op<=400000) :
 Calls Tryz.prog 67 #[.pointer (some ⟨gs,0,none⟩),.int .i64 x,.pointer (some ⟨gr,0,none⟩)] w (fun e w'=>e=.returned (.tuple #[])/\SpO w w' F gs gr q N op mark rd bg cl fv sts rs A R0 x):=by
 have hrl:rs.length<=50000:=by
  have:∀(l:List Ru),(∀x∈l,x.f.At w)->l.length<=(itsR l).length:=fun l=>by
   induction l with
   | nil=>intro _;simp
   | cons x t ih=>
    intro hx;have h3:=ih (fun y hy=>hx y (by simp[hy]));have h4:=Fo.len_pos (-1) (hx x si);have h5:x.f.len=1:=rfl;have h6:x.its.length=(x.f.pos (-1)).length:=by simp[Ru.its]
    rw[itsR_cons,List.length_append,List.length_cons];omega
  exact Nat.le_trans (this rs hS.gt) hI
 obtain⟨iS,jS0,jS1,jS2,jS3⟩:=info_parts infoPs;obtain⟨iR,jR0,jR1,jR2,jR3⟩:=info_parts infoRu;have s1:w.cell? ⟨gs,1,none⟩=some (.slice RA rs.length rc):=hS.st.cell 1;have hcap:=OwnS.caps hS.ow;have HS:=lh hS;have HC:=lh hC;have HNB:=lh hnb;have HF:=lh hf;have HRS:=lh res;have HOK:=lh hok;clear hS hC hnb hf res hok;go_enter Tryz.func67,Tryz.ntmps67
 go_upto_region 2 with fail
 go_loopw [6,18] (fun v6 v18 wr=>∃(k:Nat) (B:Option Addr) (d:Nat) (vs:List Value),v18=.int .i64 k/\k<=rs.length/\v6=.slice B vs.length d/\vs.length<=k/\Hid (OwnS wr w.heap.size 132 1 B vs.length d vs)/\Hid (Ext w wr)) (fun _ v _=>rs.length-(intOf v).toNat)
 case atStart=>exact⟨0,none,0,[],rfl,om,rfl,by simp,lh (OwnS.nil _ _ _ _),lh (Ext.rfl' _)⟩
 case round=>
  obtain⟨k,B,d,vs,rfl,hk,rfl,hvl,HB,HX⟩:=hrel;by_cases hlt:k<rs.length
  ·have hkI:(k:Int)<rs.length:=om;obtain⟨lb,lo,hLA,hlc⟩:=OwnS.cells HS.out.ow (by intro e;have:=flatR_len rs;rw[e] at this;simp at this;omega);have hfg:=flatR_get (rs:=rs) (i:=k) (r:=rs[k]) (by simp[hlt]);obtain⟨hf1,hf2⟩:=List.getElem?_eq_some_iff.1 hfg.1;obtain⟨hf3,hf4⟩:=List.getElem?_eq_some_iff.1 hfg.2;have d0:=HX.out.cell (hlc (k*2) hf1);have d1:=HX.out.cell (hlc (k*2+1) hf3);simp only[hf2] at d0;simp only[hf4] at d1;replace d1:wr.cell? ⟨lb,lo+k*2+1,none⟩=some (.pointer (some ⟨rs[k].b,0,none⟩)):=d1;generalize rs[k]=r at *;clear hf1 hf2 hf3 hf4 hfg hlc;have HLA:=lh hLA;rw[hLA];clear hLA;have BR:=Blk.new wr 140 #[.pointer (some ⟨r.sb,0,none⟩),.pointer (some ⟨r.b,0,none⟩)];have ER:=Ext.alloc wr (.cells #[.pointer (some ⟨r.sb,0,none⟩),.pointer (some ⟨r.b,0,none⟩)] 140)
   go_upto_region 4 with fail
   obtain⟨gb,hgb⟩:∃g,g=wr.heap.size:=⟨_,rfl⟩
   rw[<-hgb] at BR ⊢;clear hgb;have HB5:=lh (OwnS.ext HB.out ER);have HX5:=lh (HX.out.trans ER);have hw5:=(HX.out.trans ER).size;clear HB HX;generalize wr.alloc (.cells #[.pointer (some ⟨r.sb,0,none⟩),.pointer (some ⟨r.b,0,none⟩)] 140)=w5 at *;have c0:w5.cell? ⟨gb,0,none⟩=some (.pointer (some ⟨r.sb,0,none⟩)):=BR.cell 0;clear d0 d1 ER
   go_wp2_with ((at_builtin;refine wpList_app _ rfl _ _ _ rfl w.heap.size 132 iS (.pointer none) 1 8 Tryz.underlying245 jS0 jS1 jS2 jS3 rfl om B vs.length d vs rfl (OwnS.ext HB5.out (Ext.alloc _ _)) _ 1 1 [.pointer (some ⟨r.sb,0,none⟩)] rfl rfl (blk_cells (Blk.new _ _ _)) (by intro u hu;rw[List.mem_singleton.1 hu];rfl) um om (Nat.le_trans hw5 (Ext.alloc _ _).size) ?_;intro A8 d8 w8 ho8 hg8 hat8))
   have HX8:=lh ((HX5.out.trans (Ext.alloc _ (.cells #[.pointer (some ⟨r.sb,0,none⟩)] 132))).grown hg8 (fun j hj=>OwnS.row HB5.out _ hj));have hl8:vs.length+1=(vs++[Value.pointer (some ⟨r.sb,0,none⟩)]).length:=by simp
   have HB8:=lh (show OwnS w8 w.heap.size 132 1 A8 (vs++[Value.pointer (some ⟨r.sb,0,none⟩)]).length d8 (vs++[Value.pointer (some ⟨r.sb,0,none⟩)]) by rw[<-hl8];exact ho8);go_roundw
   case rel=>exact⟨k+1,A8,d8,vs++[Value.pointer (some ⟨r.sb,0,none⟩)],by go_num,om,by rw[<-hl8],by rw[<-hl8];omega,HB8,HX8⟩
   case measure=>simp[intOf];omega
  ·have hkI:¬(k:Int)<rs.length:=om;obtain rfl:k=rs.length:=om;clear HB hvl hk;have HS1:=HS.out.st.ext HX.out;have s0:wr.cell? ⟨gs,0,none⟩=some (.pointer (some ⟨q.gm,0,none⟩)):=HS1.cell 0;have HFG:=lh (sforget_any wr F q mark rd fv sts (HS.out.ma.ext HX.out) hst B vs.length d);clear s1
   go_upto_region 7 with(go_at_call 140;refine HFG.out.mono ?_;rintro e w2 ⟨rfl,x2⟩)
   have HX2:=lh (HX.out.trans x2);have st2:=HS1.ext x2;have s2:w2.cell? ⟨gs,2,none⟩=some (.int .i64 N):=st2.cell 2;have f2:=st2.frz 2;have hw:IntKind.i64.wrap (N+1)=N+1:=wj;have hw2:wrap64 (N+1)=N+1:=by unfold wrap64;omega
   clear s0 HS1 HX HFG x2
   go_upto_region 8 with fail
   have st3:Blk (w2.setCell ⟨gs,2,none⟩ (.int .i64 (N+1))) gs 126 (strC ⟨q.gm,RA,rs.length,rc,N+1,bg,cl⟩ op):=by have:=st2.set 2 (.int .i64 (N+1));simpa[strC] using this
   have K3:=lh (KpP.set (p:=(·=gs)) (x:=⟨gs,2,none⟩) (KpP.refl _ w2) (.inl rfl) (.int .i64 (N+1)));have HST2:=lh st2;clear st2 s2 f2;generalize w2.setCell ⟨gs,2,none⟩ (.int .i64 (N+1))=w3 at *;have s1:w3.cell? ⟨gs,1,none⟩=some (.slice RA rs.length rc):=st3.cell 1;have HST3:=lh st3;clear st3 hw hw2;have hmk:=mkRun rs.length om
   go_upto_region 9 with fail
   clear s1 hmk;have E4:=Ext.alloc w3 (.cells (zRun (rs.length+1)) 140);have BZ:=Blk.new w3 140 (zRun (rs.length+1));have HP0:Hid (SqP ⟨F,gs,gr,q,RA,rc,N+1,op,rd,bg,cl,fv,sts,rs,A,c,R0,x,mark,w3⟩ (w3.alloc (.cells (zRun (rs.length+1)) 140)) 0 sts mark [] (some ⟨w3.heap.size,0,none⟩) (rs.length+1)):=lh (by
    have nG:NoG w2 (·=gs):=fun b hb cs=>by
     have hb':b=gs:=hb;subst hb';exact⟨fun e=>blk_blk e HST2.out de rfl,fun e=>blk_blk e HST2.out de rfl⟩
    have ow2:=OwnS.ext HS.out.ow HX2.out;have r2:=HRS.out.1.ext HX2.out;have r2o:=OwnS.ext HRS.out.2 HX2.out;refine⟨HST3.out.ext E4,OwnS.ext (OwnS.kp ow2 K3.out (fun b hb e=>own_blk ow2 HST2.out de (by rw[hb,show b=gs from e]))) E4,?_,fun b hb=>Nat.lt_of_lt_of_le (OwnS.blt ow2 hb).1 K3.out.size,((HS.out.ma.ext HX2.out).kpT K3.out (fun b hb=>?_)).ext E4,⟨Int.le_refl _,by simp⟩,StsC.rfl' _,by simp,fun r hr=>?_,rfl,rfl,rfl,by simp,⟨(K3.out.blk r2 (blk_blk r2 HST2.out de)).ext E4,OwnS.ext (OwnS.kp r2o K3.out (fun b hb e=>own_blk r2o HST2.out de (by rw[hb,show b=gs from e]))) E4⟩,KpP.of_ext E4⟩
    ·have:=OwnS.of_blk (base:=w3.heap.size) (size:=2) (n:=0) (c:=rs.length+1) BZ (Nat.le_refl _) (zRun_size _) (Nat.zero_le _) um
     simpa[flatR] using this
    ·have hb':b=gs:=hb;subst hb';exact⟨_,_,HST2.out,by decide,by decide,by decide⟩
    ·have hr':r∈rs:=by simpa using hr
     exact(Fo.At.kpT K3.out nG ((HS.out.gt r hr').ext HX2.out)).ext E4)
   have HK0:=lh (show KpP F w w3 from KpP.trans (KpP.of_ext HX2.out) (K3.out.mono (fun i hi=>by rw[show i=gs from hi];exact HS.out.fg)));obtain⟨gB,hgB⟩:∃g,g=w3.heap.size:=⟨_,rfl⟩
   rw[<-hgB] at HP0 ⊢;clear hgB E4 BZ;generalize w3.alloc (.cells (zRun (rs.length+1)) 140)=w4 at *;have s1:w4.cell? ⟨gs,1,none⟩=some (.slice RA rs.length rc):=HP0.out.st.cell 1
   go_upto_region 10 with fail
   clear s1
   go_loopw [9,53] (fun v9 v53 wr=>∃(k:Nat) (sts':List Sta) (mark':Int) (nrs:List Ru) (B:Option Addr) (d:Nat),v53=.int .i64 k/\k<=rs.length/\v9=.slice B k d/\Hid (SqP ⟨F,gs,gr,q,RA,rc,N+1,op,rd,bg,cl,fv,sts,rs,A,c,R0,x,mark,w3⟩ wr k sts' mark' nrs B d)) (fun _ v _=>rs.length-(intOf v).toNat)
   case atStart=>exact⟨0,sts,mark,[],_,_,rfl,om,rfl,HP0⟩
   case round=>
    obtain⟨k,sts',mark',nrs,B,d,rfl,hk,rfl,HP⟩:=hrel;by_cases hlt:k<rs.length
    ·have hkI:(k:Int)<rs.length:=om;obtain⟨lb,lo,hLA,hlc⟩:=OwnS.cells HP.out.ow (by intro e;have:=flatR_len rs;simp only at e;rw[e] at this;simp at this;omega);have hfg:=flatR_get (rs:=rs) (i:=k) (r:=rs[k]) (by simp[hlt]);obtain⟨hf1,hf2⟩:=List.getElem?_eq_some_iff.1 hfg.1;obtain⟨hf3,hf4⟩:=List.getElem?_eq_some_iff.1 hfg.2;have d0:=hlc (k*2) hf1;have d1:=hlc (k*2+1) hf3;simp only[hf2] at d0;simp only[hf4] at d1
     simp only at hLA
     replace d1:wr.cell? ⟨lb,lo+k*2+1,none⟩=some (.pointer (some ⟨rs[k].b,0,none⟩)):=d1;have hrm:=List.getElem_mem hlt;obtain⟨r,hrk⟩:∃r,rs[k]=r:=⟨_,rfl⟩;have HRK:=lh (show ∃h:k<rs.length,rs[k]=r from⟨hlt,hrk⟩);rw[hrk] at d0 d1 hrm;obtain⟨z0,hz0,hzb0,hzl0⟩:=HS.out.re r hrm;obtain⟨z,hz,hzb,hzl,_⟩:=HP.out.sk.old z0 hz0;have hzb:=hzb.trans hzb0;have hzl:=hzl.trans hzl0;have hdr:r∈rs.drop k:=by rw[List.drop_eq_getElem_cons hlt,hrk];simp
     clear hf1 hf2 hf3 hf4 hfg hlc hz0 hzb0 hzl0 hrk;rw[hLA];have HLA:=lh hLA;clear hLA;have BR:=Blk.new wr 140 #[.pointer (some ⟨r.sb,0,none⟩),.pointer (some ⟨r.b,0,none⟩)];have ER:=Ext.alloc wr (.cells #[.pointer (some ⟨r.sb,0,none⟩),.pointer (some ⟨r.b,0,none⟩)] 140)
     go_upto_region 12 with fail
     obtain⟨gb,hgb⟩:∃g,g=wr.heap.size:=⟨_,rfl⟩
     rw[<-hgb] at BR ⊢;clear hgb;have HP5:=lh (HP.out.ext ER);clear HP d0 d1 ER;generalize wr.alloc (.cells #[.pointer (some ⟨r.sb,0,none⟩),.pointer (some ⟨r.b,0,none⟩)] 140)=w5 at *;have c0:w5.cell? ⟨gb,0,none⟩=some (.pointer (some ⟨r.sb,0,none⟩)):=BR.cell 0;have s0:w5.cell? ⟨gs,0,none⟩=some (.pointer (some ⟨q.gm,0,none⟩)):=HP5.out.st.cell 0;have HAF:=lh (fun(w':World) (xx:Ext w5 w')=>safter_any w' F q runes caps hG mark' rd fv sts' (by have:=HP5.out.mq;simp only at this;omega) (HP5.out.ma.ext xx) (fun w'' kk=>HC.out w'' (KpP.trans HK0.out (KpP.trans HP5.out.kp (KpP.trans (KpP.of_ext xx) kk)))) HOK.out z hz x);rw[hzb] at HAF;have nm:=af_ne HP5.out.ma hz HP5.out.st de de;have nb:=af_ne HP5.out.ma hz BR de de;have j0:=fun(w':World) (h:Kp [q.gm,q.gM,q.gS,z.gn] w5 w')=>h.cell s0 (by simpa[AfF] using nm);have j1:=fun(w':World) (h:Kp [q.gm,q.gM,q.gS,z.gn] w5 w')=>h.cell c0 (by simpa[AfF] using nb);clear s0 c0;refine Xr.start [q.gm,q.gM,q.gS,z.gn] kr ?_;refine Xtk 0 ?_
     iterate 6(refine Xtn ?_)
     refine Xsp 7 fun w6 hE6 hK6 K hKK=>?_;go_simp;refine(HAF.out w6 hE6).mono ?_;rintro en w7 ⟨yb,rfl,ho⟩;refine hKK _ _ (WI_kp ho.kp (fun i hi=>by simpa[AfF] using hi)) (hK6.kpP ho.kp (fun i hi=>by simpa[AfF] using hi)) ?_;clear hKK;refine ptm ?_;refine Xtk 8 ?_;refine Xdn fun w8 hE8 hK8=>?_;obtain⟨sts2,mark2,hM⟩:=(HP5.out.ext hE6).aft (fun b hb=>HNB.out b (Nat.le_trans HK0.out.size hb)) hz ho;have HM:=lh (hM.ext hE8);have BR8:=((ho.kp.blk (BR.ext hE6) nb).ext hE8)
     simp only at HM
     rw[hzl] at HM;obtain⟨y,hy,hyb,hyl⟩:=HM.out.ye;have yd:w8.cell? ⟨yb,1,none⟩=some (.bool (doneG (insL q.cd.hs) (nextG (insL q.cd.hs) r.l x))):=by
      rw[<-hyl,<-hyb];exact(HM.out.ma.sq.at_ y hy).blk.cell 1
     clear j0 j1 hM ho hE6 hK6 hE8 hK8 BR HP5 HAF hy hyb hyl nm;by_cases hd:doneG (insL q.cd.hs) (nextG (insL q.cd.hs) r.l x)=true
     ·rw[hd] at yd;have HD:=lh hd;clear hd;have gg:Blk w8 r.b 250 #[.int .i64 r.p,.int .i64 r.e,.slice r.A r.k.len r.c]:=(HM.out.gt r (List.mem_append_right _ hdr)).1;have n1:=blk_blk BR8 gg de;have n2:=blk_blk HM.out.st gg de
      simp only at n2
      have b1:w8.cell? ⟨gb,1,none⟩=some (.pointer (some ⟨r.b,0,none⟩)):=BR8.cell 1;have s2:w8.cell? ⟨gs,2,none⟩=some (.int .i64 (N+1)):=HM.out.st.cell 2;have j1:=fun(w':World) (h:Kp [r.b] w8 w')=>h.cell b1 (by simpa using n1);have j2:=fun(w':World) (h:Kp [r.b] w8 w')=>h.cell s2 (by simpa using n2)
      go_upto_region 14 with fail
      clear b1 s2 yd;refine Xr.start [r.b] kr ?_;refine Xtk 0 ?_
      iterate 7(refine Xtn ?_)
      refine Xsp 8 fun w9 hE9 hK9 K hKK=>?_;have gg9:=gg.ext hE9;have c9:w9.cell? ⟨r.b,1,none⟩=some (.int .i64 r.e):=gg9.cell 1;have f9:=gg9.frz 1;go_simp;refine hKK _ _ (WI_setL (WI_refl _ _ _) List.mem_cons_self _ _) (hK9.setL List.mem_cons_self _ _) ?_;clear hKK;refine ptm ?_;refine Xdn fun w11 hE11 hK11=>?_;have k3:KpP (·=r.b) w8 w11:=(KpP.of_ext hE9).trans ((KpP.set (p:=(·=r.b)) (x:=⟨r.b,1,none⟩) (KpP.refl _ _) (.inl rfl) (.int .i64 (N+1))).trans (KpP.of_ext hE11));have ga:(grp r.b r.p (N+1) r.A r.c r.k).At w11:=by
       have hnd:(grp r.b r.p r.e r.A r.c r.k).fp.Nodup:=by
        have h1:=HS.out.nd;obtain⟨xs,ys,hxy⟩:=List.append_of_mem hrm;rw[hxy,fpR_app,fpR_cons] at h1;exact(List.nodup_append.1 (List.nodup_append.1 h1).2.1).1
       refine Fo.At.setE (HM.out.gt r (List.mem_append_right _ hdr)) hnd k3 ?_ om (by unfold I64;omega);have:=(gg9.set 1 (.int .i64 (N+1))).ext hE11
       simpa using this
      have BR11:=k3.blk BR8 n1;clear gg9 c9 f9 hE9 hK9 hE11 hK11 j1 j2 gg n1 n2;have c1:w11.cell? ⟨gb,1,none⟩=some (.pointer (some ⟨r.b,0,none⟩)):=BR11.cell 1;have K11:=lh k3;have GA11:=lh ga;have hgw:w3.heap.size<=w11.heap.size:=Nat.le_trans HM.out.kp.size k3.size;have nw11:=OwnS.kp HM.out.nw k3 (fun b hb e=>own_blk HM.out.nw (HM.out.gt r (List.mem_append_right _ hdr)).1 de (by rw[hb,show b=r.b from e]));have HNW:=lh nw11;have hln:=HM.out.ln;rw[hln] at HNW;clear nw11 k3 ga BR11 hln
      go_wp2_with ((at_builtin;refine wpList_app _ rfl _ _ _ rfl w3.heap.size 140 iR (.agg #[.pointer none,.pointer none]) 2 16 Tryz.underlying124 jR0 jR1 jR2 jR3 rfl om B k d (flatR nrs) rfl (OwnS.ext HNW.out (Ext.alloc _ _)) _ 1 1 [.pointer (some ⟨yb,0,none⟩),.pointer (some ⟨r.b,0,none⟩)] rfl rfl (blk_cells (Blk.new _ _ _)) (by intro u hu;simp only[List.mem_cons,List.not_mem_nil,or_false] at hu;rcases hu with rfl|rfl<;>rfl) um om (Nat.le_trans hgw (Ext.alloc _ _).size) ?_;intro A12 d12 w12 ho12 hg12 hat12))
      have HPN:Hid (∃nrs',SqP ⟨F,gs,gr,q,RA,rc,N+1,op,rd,bg,cl,fv,sts,rs,A,c,R0,x,mark,w3⟩ w12 (k+1) sts2 mark2 nrs' A12 d12):=lh (by
       obtain⟨hkl,hre⟩:=HRK.out;have hln:=HM.out.ln;refine⟨_,SqM.snoc HM.out hkl hre rfl (fun b hb=>HNB.out b (Nat.le_trans HK0.out.size hb)) (by show 0<=N+1;omega) HS.out.nd (HS.out.fr _ (mem_fpR.2 ⟨r,hrm,by show r.b∈(grp r.b r.p r.e r.A r.c r.k).fp;rw[grp_fp];simp⟩)) (e':=N+1) (by rw[if_pos HD.out]) K11.out GA11.out (KpP.extThen' (Ext.alloc _ _) (KpP.of_grown hg12)) ?_⟩;rw[hln];exact ho12)
      exact UIz1
     ·have hd':doneG (insL q.cd.hs) (nextG (insL q.cd.hs) r.l x)=false:=by simpa using hd
      rw[hd'] at yd;have HD:=lh hd;clear hd hd';obtain⟨w11,hw11⟩:∃w11,w11=w8:=⟨_,rfl⟩;subst hw11;have k3:KpP (·=r.b) w11 w11:=KpP.refl _ _;have ga:(grp r.b r.p r.e r.A r.c r.k).At w11:=HM.out.gt r (List.mem_append_right _ hdr);have BR11:=BR8;have c1:w11.cell? ⟨gb,1,none⟩=some (.pointer (some ⟨r.b,0,none⟩)):=BR11.cell 1;have K11:=lh k3;have GA11:=lh ga;have hgw:w3.heap.size<=w11.heap.size:=Nat.le_trans HM.out.kp.size k3.size;have nw11:=OwnS.kp HM.out.nw k3 (fun b hb e=>own_blk HM.out.nw (HM.out.gt r (List.mem_append_right _ hdr)).1 de (by rw[hb,show b=r.b from e]));have HNW:=lh nw11;have hln:=HM.out.ln;rw[hln] at HNW;clear nw11 k3 ga BR11 hln
      go_wp2_with ((at_builtin;refine wpList_app _ rfl _ _ _ rfl w3.heap.size 140 iR (.agg #[.pointer none,.pointer none]) 2 16 Tryz.underlying124 jR0 jR1 jR2 jR3 rfl om B k d (flatR nrs) rfl (OwnS.ext HNW.out (Ext.alloc _ _)) _ 1 1 [.pointer (some ⟨yb,0,none⟩),.pointer (some ⟨r.b,0,none⟩)] rfl rfl (blk_cells (Blk.new _ _ _)) (by intro u hu;simp only[List.mem_cons,List.not_mem_nil,or_false] at hu;rcases hu with rfl|rfl<;>rfl) um om (Nat.le_trans hgw (Ext.alloc _ _).size) ?_;intro A12 d12 w12 ho12 hg12 hat12))
      have HPN:Hid (∃nrs',SqP ⟨F,gs,gr,q,RA,rc,N+1,op,rd,bg,cl,fv,sts,rs,A,c,R0,x,mark,w3⟩ w12 (k+1) sts2 mark2 nrs' A12 d12):=lh (by
       obtain⟨hkl,hre⟩:=HRK.out;have hln:=HM.out.ln;refine⟨_,SqM.snoc HM.out hkl hre rfl (fun b hb=>HNB.out b (Nat.le_trans HK0.out.size hb)) (by show 0<=N+1;omega) HS.out.nd (HS.out.fr _ (mem_fpR.2 ⟨r,hrm,by show r.b∈(grp r.b r.p r.e r.A r.c r.k).fp;rw[grp_fp];simp⟩)) (e':=r.e) (by rw[if_neg HD.out]) K11.out GA11.out (KpP.extThen' (Ext.alloc _ _) (KpP.of_grown hg12)) ?_⟩;rw[hln];exact ho12)
      exact UIz1
    ·have hkI:¬(k:Int)<rs.length:=om;obtain rfl:k=rs.length:=om;have s3:wr.cell? ⟨gs,3,none⟩=some (.int .i64 op):=HP.out.st.cell 3;have f3:=HP.out.st.frz 3;have hw:IntKind.i64.wrap (op+1)=op+1:=wj;have hw2:wrap64 (op+1)=op+1:=by unfold wrap64;omega
     go_upto_region 18 with fail
     have k5:KpP (·=gs) wr (wr.setCell ⟨gs,3,none⟩ (.int .i64 (op+1))):=KpP.set (p:=(·=gs)) (x:=⟨gs,3,none⟩) (KpP.refl _ _) (.inl rfl) _;have st5:Blk (wr.setCell ⟨gs,3,none⟩ (.int .i64 (op+1))) gs 126 (strC ⟨q.gm,RA,rs.length,rc,N+1,bg,cl⟩ (op+1)):=by have:=HP.out.st.set 3 (.int .i64 (op+1));simpa[strC] using this
     have HQ5:=lh (show Blk (wr.setCell ⟨gs,3,none⟩ (.int .i64 (op+1))) gs 126 (strC ⟨q.gm,RA,rs.length,rc,N+1,bg,cl⟩ (op+1))/\OwnS (wr.setCell ⟨gs,3,none⟩ (.int .i64 (op+1))) w3.heap.size 140 2 B nrs.length d (flatR nrs)/\MaI (wr.setCell ⟨gs,3,none⟩ (.int .i64 (op+1))) F q mark' rd fv sts'/\(∀r∈nrs,r.f.At (wr.setCell ⟨gs,3,none⟩ (.int .i64 (op+1))))/\RsAt (wr.setCell ⟨gs,3,none⟩ (.int .i64 (op+1))) gr A c R0/\KpP F w (wr.setCell ⟨gs,3,none⟩ (.int .i64 (op+1))) by
      have hst:=HP.out.st;have nG:NoG wr (·=gs):=fun b hb cs=>by
       have hb':b=gs:=hb;subst hb';exact⟨fun e=>blk_blk e hst de rfl,fun e=>blk_blk e hst de rfl⟩
      refine⟨st5,OwnS.kp HP.out.nw k5 (fun b hb e=>own_blk HP.out.nw hst de (by rw[hb];exact congrArg some e)),HP.out.ma.kpT k5 (fun b hb=>?_),fun r hr=>Fo.At.kpT k5 nG (HP.out.gt r (List.mem_append_left _ hr)),⟨k5.blk HP.out.res.1 (blk_blk HP.out.res.1 hst de),OwnS.kp HP.out.res.2 k5 (fun b hb e=>own_blk HP.out.res.2 hst de (by rw[hb];exact congrArg some e))⟩,KpP.trans HK0.out (KpP.trans HP.out.kp (k5.mono (fun i hi=>by rw[show i=gs from hi];exact HS.out.fg)))⟩;have hb':b=gs:=hb;subst hb';exact⟨_,_,hst,by decide,by decide,by decide⟩)
     have HBS:=lh (Nat.le_trans HP.out.kp.size k5.size);have HWS:=lh HK0.out.size;have HSK:=lh (And.intro HP.out.sk (And.intro HP.out.mq (And.intro HP.out.re (And.intro HP.out.ln (And.intro HP.out.fp (And.intro HP.out.it HP.out.dn))))));clear HP k5 st5 s3 f3 hw hw2 HP0 HX2 K3 HST2 HST3 HK0;generalize wr.setCell ⟨gs,3,none⟩ (.int .i64 (op+1))=w5 at *;obtain⟨zf0,hzf0,hfv,hzfl⟩:=HF.out;obtain⟨zf,hzf,hzfb,hzfl1,_⟩:=HSK.out.1.old zf0 hzf0
     rw[<-hzfb] at hfv;have hzl:zf.l=stateG (insL q.cd.hs) [0]:=hzfl1.trans hzfl;have bm:=HQ5.out.2.2.1.blk;have bz:=(HQ5.out.2.2.1.sq.at_ zf hzf).blk;have m5:w5.cell? ⟨q.gm,5,none⟩=some (.pointer (some ⟨zf.b,0,none⟩)):=by rw[<-show fv=.pointer (some ⟨zf.b,0,none⟩) from hfv];exact bm.cell 5
     have z1:w5.cell? ⟨zf.b,1,none⟩=some (.bool (doneG (insL q.cd.hs) (stateG (insL q.cd.hs) [0]))):=by rw[<-hzl];exact bz.cell 1
     obtain⟨dn,hdn⟩:∃dn,Hid (dn=doneG (insL q.cd.hs) (stateG (insL q.cd.hs) [0])):=⟨_,lh rfl⟩
     rw[<-hdn.out] at z1;have HSTA:=lh (start_any gs ⟨q.gm,RA,rs.length,rc,N+1,bg,cl⟩ (op+1) zf.b dn w5 HQ5.out.1 m5 z1 (by show 0<=N+1/\N+1<=1000000;omega));have HZF:=lh (And.intro hzf (And.intro hfv hzl));clear bm bz m5 z1 hzf hfv hzl hzf0 hzfl hzfb hzfl1;have hbase:w3.heap.size<=w5.heap.size:=HBS.out;have hln:=HSK.out.2.2.2.1
     go_wp2_with (first|(go_at_call 66;refine HSTA.out.mono ?_;rintro e w6 ⟨gb,rfl,hgb,hga,x6⟩;have HNW6:=lh (OwnS.ext HQ5.out.2.1 x6);rw[hln] at HNW6)|(at_builtin;refine wpList_app _ rfl _ _ _ rfl w3.heap.size 140 iR (.agg #[.pointer none,.pointer none]) 2 16 Tryz.underlying124 jR0 jR1 jR2 jR3 rfl om B rs.length d (flatR nrs) rfl (OwnS.ext HNW6.out (Ext.alloc _ _)) _ 1 1 [.pointer (some ⟨zf.b,0,none⟩),.pointer (some ⟨gb,0,none⟩)] rfl rfl (blk_cells (Blk.new _ _ _)) (by intro u hu;simp only[List.mem_cons,List.not_mem_nil,or_false] at hu;rcases hu with rfl|rfl<;>rfl) um om (Nat.le_trans (Nat.le_trans hbase x6.size) (Ext.alloc _ _).size) ?_;intro A12 d12 w12 ho12 hg12 hat12))
     obtain⟨en,hen⟩:∃en,en=(if dn=true then N+1 else -1):=⟨_,rfl⟩
     rw[<-hen] at hga;obtain⟨rn,hrn⟩:∃rn:Ru,rn=⟨zf.b,stateG (insL q.cd.hs) [0],gb,N+1,en,none,0,.nil⟩:=⟨_,rfl⟩;have hrf:rn.f=grp gb (N+1) en none 0 .nil:=by rw[hrn];rfl
     have X:=x6.trans (Ext.alloc w6 (.cells #[.pointer (some ⟨zf.b,0,none⟩),.pointer (some ⟨gb,0,none⟩)] 140));have kg:=KpP.of_grown hg12;have hjt:stepI (insL q.cd.hs) N x (itsR rs)=itsR (nrs++[rn]):=by
      have hit:=HSK.out.2.2.2.2.2.1;rw[List.take_length] at hit;rw[itsR_app,hit];unfold stepI
      congr 1
      have e1:rn.its=[startI (insL q.cd.hs) (N+1)]:=by
       unfold Ru.its;rw[hrf,grp_pos,if_pos (by omega:(0:Int)<=N+1),hrn];simp only[List.map_cons,List.map_nil,startI];rw[if_pos (by omega:(-1:Int)<0),hen,hdn.out]
      rw[itsR_cons,e1]
      rfl
     have hll:(nrs++[rn]).length=rs.length+1:=by rw[List.length_append,hln];rfl
     have HAD:=lh (show Calls Tryz.prog 65 #[.pointer (some ⟨gs,0,none⟩),.slice A12 (rs.length+1) d12,.pointer (some ⟨gr,0,none⟩)] w12 (RetAd F gs gr q (N+1) (op+1) mark' rd bg cl fv sts' (nrs++[rn]) A R0 w12) by
      rw[<-hll];obtain⟨q1,q2,q3,q4,q5,q6⟩:=HQ5.out;obtain⟨k1,k2,k3,k4,k5,k6,k7⟩:=HSK.out;rw[List.take_length] at k5;have own:=OwnS.ext q2 X;have st':=kg.blk (q1.ext X) (own_blk own (q1.ext X) de);have r1:=kg.blk (q5.1.ext X) (own_blk own (q5.1.ext X) de);have r2:=OwnS.kp (OwnS.ext q5.2 X) kg (fun b hb h=>by
       obtain⟨_,cur,hh⟩:=OwnS.blt (OwnS.ext q5.2 X) hb;exact own_blk own (show Blk _ b _ cur from hh) de h)
      have gN:NoG (w6.alloc (.cells #[.pointer (some ⟨zf.b,0,none⟩),.pointer (some ⟨gb,0,none⟩)] 140)) (fun b=>B.map (·.block)=some b):=fun b hb cs=>⟨fun e=>own_blk own (show Blk _ b _ cs from e) de hb,fun e=>own_blk own (show Blk _ b _ cs from e) de hb⟩;have hgbw:w.heap.size<=gb:=Nat.le_trans q6.size hgb;have hfl:∀y∈fpR rs,y<w.heap.size:=fun y hy=>by
       obtain⟨r,hr,hyr⟩:=mem_fpR.1 hy;exact(HS.out.gt r hr).lt y hyr
      have hfrn:rn.f.fp=[gb]:=by rw[hrf,grp_fp];simp[blkL,Fo.fp]
      refine advance_any w12 F gs gr q RA rs.length rc (N+1) (op+1) mark' rd bg cl fv sts' A12 d12 (nrs++[rn]) A c R0 st' ((q3.ext X).kpT kg (fun b hb=>?_)) om (fun z hz=>?_) ?_ (fun r hr=>?_) (fun r hr=>?_) ?_ (fun y hy=>?_) HS.out.fg (fun r hr hd y hy=>?_) ⟨r1,r2⟩ (fun b hb=>HNB.out b (Nat.le_trans q6.size (Nat.le_trans X.size (Nat.le_trans kg.size hb)))) ?_ hR om
      ·obtain⟨_,cur,hh⟩:=OwnS.blt own hb;exact⟨_,_,hh,by decide,by decide,by decide⟩
      ·rcases k1.new z hz with⟨u,hu,_,_,h3,_⟩|h0
       ·rw[<-h3];exact HS.out.rd_ u hu
       ·omega
      ·rw[hll,flatR_app];have e1:flatR [rn]=[.pointer (some ⟨zf.b,0,none⟩),.pointer (some ⟨gb,0,none⟩)]:=by rw[hrn];rfl
       rw[e1];exact OwnS.to0 ho12
      ·rcases List.mem_append.1 hr with hr|hr
       ·exact k3 r hr
       ·rw[List.mem_singleton.1 hr,hrn];exact⟨zf,HZF.out.1,rfl,HZF.out.2.2⟩
      ·rcases List.mem_append.1 hr with hr|hr
       ·exact Fo.At.kpT kg gN ((q4 r hr).ext X)
       ·rw[List.mem_singleton.1 hr,hrf];exact Fo.At.kpT kg gN (hga.ext (Ext.alloc _ _))
      ·rw[fpR_app,k5,fpR_cons,hfrn];refine List.nodup_append.2 ⟨HS.out.nd,by simp[fpR],fun a ha b hb e=>?_⟩;have hb':b=gb:=by simpa[fpR] using hb
       have:=hfl a ha;omega
      ·rw[fpR_app,k5,fpR_cons,hfrn] at hy;rcases List.mem_append.1 hy with hy|hy
       ·exact HS.out.fr y hy
       ·have:y=gb:=by simpa[fpR] using hy
        rw[this];exact HNB.out gb hgbw
      ·rcases List.mem_append.1 hr with hr|hr
       ·exact k7 r hr hd y hy
       ·rw[List.mem_singleton.1 hr] at hd hy;rw[hrf,grp_pos,if_pos (by omega:(0:Int)<=N+1),if_pos (by omega:(-1:Int)<0)] at hy;have hd2:doneG (insL q.cd.hs) (stateG (insL q.cd.hs) [0])=true:=by rw[hrn] at hd;exact hd
        have hy2:y=(N+1,en):=by simpa using hy
        rw[hy2,hen,hdn.out,if_pos hd2]
      ·rw[<-hjt];unfold stepI;rw[List.length_append,List.length_map];simp only[List.length_cons,List.length_nil];omega)
     have HFR:=lh (show KpP F w w12 from KpP.chain (KpP.trans HQ5.out.2.2.2.2.2 (KpP.of_ext X)) kg (fun i hi=>.inr (Nat.le_trans HWS.out (OwnS.row HQ5.out.2.1 i hi))));clear hg12 ho12 hat12 kg X hga;refine HAD.out.mono ?_;rintro e w9 ⟨rfl,ho⟩;have HF9:Hid (SpO w w9 F gs gr q N op mark rd bg cl fv sts rs A R0 x):=lh (by
      obtain⟨⟨sts2,RA2,rc2,rs2,hS2,hzk,hpm⟩,⟨A2,c2,hr2,ha2⟩,kp2⟩:=ho
      rw[<-hjt] at hS2 hpm hr2;obtain⟨k1,k2,_⟩:=HSK.out;have hmz:∀z∈sts',∃z2∈sts2,z2.b=z.b/\z2.l=z.l:=fun z hz=>by
       have h1:zkey z∈sts2.map zkey:=by rw[hzk];exact List.mem_map.2 ⟨z,hz,rfl⟩
       obtain⟨z2,h2,h3⟩:=List.mem_map.1 h1;exact⟨z2,h2,congrArg (fun t=>t.1) h3,congrArg (fun t=>t.2.2.2.1) h3⟩
      have hws:=Nat.le_trans HFR.out.size (Nat.le_refl _);refine⟨⟨sts2,RA2,rc2,rs2,mark',hS2,?_,hpm,k2.1,k2.2,?_⟩,⟨A2,c2,hr2,ha2.imp id (fun h b hb=>Nat.le_trans hws (h b hb))⟩,?_⟩
      ·obtain⟨z2,h2,h3,h4⟩:=hmz zf HZF.out.1;exact⟨z2,h2,by rw[HZF.out.2.1,h3],by rw[h4];exact HZF.out.2.2⟩
      ·have:sts2.length=sts'.length:=by have:=congrArg List.length hzk;simpa using this
       rw[this];exact k1.len
      ·refine KpP.trans (HFR.out.mono (fun i hi=>.inl hi)) (kp2.mono (fun i hi=>?_));have hma:=HQ5.out.2.2.1;rcases hi with hi|hi|hi|hi|⟨z,hz,hi⟩|hi
       ·exact .inl (by rw[hi];exact hma.fm)
       ·exact .inl (by rw[hi];exact HS.out.fg)
       ·exact .inr (.inl hi)
       ·exact .inr (.inr hi)
       ·exact .inl (by rw[<-hi];exact(hma.sq.fz z hz).1)
       ·obtain⟨r,hr,hir⟩:=mem_fpR.1 hi;rcases List.mem_append.1 hr with hr|hr
        ·have h5:i∈fpR nrs:=mem_fpR.2 ⟨r,hr,hir⟩;have h6:=HSK.out.2.2.2.2.1;rw[List.take_length] at h6;rw[h6] at h5;exact .inl (HS.out.fr i h5)
        ·rw[List.mem_singleton.1 hr,hrf,grp_fp] at hir;have:i=gb:=by simpa[blkL,Fo.fp] using hir
         rw[this];exact .inl (HNB.out gb (Nat.le_trans HQ5.out.2.2.2.2.2.size hgb)))
     clear ho HAD
     go_wp2_with fail
     exact bodyPost_end (v:=.tuple #[]) (by simp[results,Tryz.results67,go_sem]) rfl ⟨rfl,HF9.out⟩
end
section
open Go.RowKit
def nP (w:World)(b:Nat):Prop:=∀cs,w.heap[b]?≠some (.cells cs 54 (0,0))
theorem blk_nP {w:World}{g T:Nat}{cs:Array Value}(h:Blk w g T cs)(hT:T≠54):g<w.heap.size/\nP w g:=⟨h.lt,fun ds e=>blk_blk h e hT rfl⟩
theorem own_nP {w:World}{base e size n c:Nat}{A:Option Addr}{xs:List Value}(h:OwnS w base e size A n c xs)(hT:e≠54){b:Nat}(hb:A.map (·.block)=some b):b<w.heap.size/\nP w b:=by
 obtain⟨hl,cur,hh⟩:=OwnS.blt h hb;exact blk_nP (show Blk w b e cur from hh) hT
theorem map_nP {w:World}{α β:Type}{kv:α->Value}{vv:β->Value}{g:Nat}{l:List (α×β)}(h:MapAt w g kv vv l):g<w.heap.size/\nP w g:=⟨h.lt,fun ds e=>h.nI e⟩
theorem MaI.tight {w:World}{F:Nat->Prop}{q:Mq}{mark rd:Int}{fv:Value}{sts:List Sta}(h:MaI w F q mark rd fv sts):MaI w (fun b=>F b/\b<w.heap.size/\nP w b) q mark rd fv sts:=by
 obtain⟨bm,⟨ms,bM,hl,hms⟩,sq,fm,fM⟩:=h;exact⟨bm,⟨ms,bM,hl,hms⟩,⟨sq.map,sq.at_,sq.nx,sq.inj,sq.nM,sq.lt,sq.sh,⟨sq.fS,map_nP sq.map⟩,fun z m=>⟨⟨(sq.fz z m).1,blk_nP (sq.at_ z m).blk de⟩,⟨(sq.fz z m).2.1,map_nP (sq.at_ z m).mp⟩,fun b hb=>⟨(sq.fz z m).2.2 b hb,by
  obtain⟨cur,hh⟩:=(sq.at_ z m).ty b hb;exact blk_nP (show Blk w b _ cur from hh) de⟩⟩⟩,⟨fm,blk_nP bm de⟩,⟨fM,blk_nP bM de⟩⟩
theorem StmI.tight {w:World}{F:Nat->Prop}{gs:Nat}{q:Mq}{RA:Option Addr}{rc:Nat}{N op mark rd:Int}{bg cl:Bool}{fv:Value}{sts:List Sta}{rs:List Ru}(h:StmI w F gs q RA rc N op mark rd bg cl fv sts rs):StmI w (fun b=>F b/\b<w.heap.size/\nP w b) gs q RA rc N op mark rd bg cl fv sts rs:=by
 obtain⟨st,ow,ma,rd_,re,gt,nd,fr,fg,fo,nl,dn⟩:=h;refine⟨st,ow,ma.tight,rd_,re,gt,nd,fun x hx=>⟨fr x hx,?_⟩,⟨fg,blk_nP st de⟩,fun b hb=>⟨fo b hb,own_nP ow de hb⟩,nl,dn⟩;obtain⟨r,hr,hxr⟩:=mem_fpR.1 hx;obtain⟨cs,T,hh,hT⟩:=(gt r hr).ty x hxr;exact blk_nP (show Blk w x T cs from hh) (by rcases hT with rfl|rfl<;>decide)
theorem StmI.mono {w:World}{F F':Nat->Prop}{gs:Nat}{q:Mq}{RA:Option Addr}{rc:Nat}{N op mark rd:Int}{bg cl:Bool}{fv:Value}{sts:List Sta}{rs:List Ru}(h:StmI w F gs q RA rc N op mark rd bg cl fv sts rs)(hF:∀b,F b->F' b):StmI w F' gs q RA rc N op mark rd bg cl fv sts rs:=
 ⟨h.st,h.ow,h.ma.mono hF,h.rd_,h.re,h.gt,h.nd,fun x hx=>hF _ (h.fr x hx),hF _ h.fg,fun b hb=>hF _ (h.fo b hb),h.nl,h.dn⟩
theorem StmI.kp {w w':World}{F p:Nat->Prop}{gs:Nat}{q:Mq}{RA:Option Addr}{rc:Nat}{N op mark rd:Int}{bg cl:Bool}{fv:Value}{sts:List Sta}{rs:List Ru}(h:StmI w F gs q RA rc N op mark rd bg cl fv sts rs)(k:KpP p w w')(hp:∀b,F b->¬p b):StmI w' F gs q RA rc N op mark rd bg cl fv sts rs:=by
 obtain⟨st,ow,ma,rd_,re,gt,nd,fr,fg,fo,nl,dn⟩:=h;obtain⟨bm,⟨ms,bM,hl,hms⟩,sq,fm,fM⟩:=ma;exact⟨k.blk st (hp _ fg),OwnS.kp ow k (fun b hb=>hp b (fo b hb)),⟨k.blk bm (hp _ fm),⟨ms,k.blk bM (hp _ fM),hl,hms⟩,sq.kp k hp,fm,fM⟩,rd_,re,fun r hr=>(gt r hr).kp k (fun b hb=>hp b (fr b (mem_fpR.2 ⟨r,hr,hb⟩))),nd,fr,fg,fo,nl,dn⟩
structure StrS (w:World)(F:Nat->Prop)(gs:Nat)(q:Mq)(runes:Bool)(caps:Int)(N:Nat)(I:List Itm)(bg:Bool):Prop where
 ex:∃RA rc mark rd fv sts rs,StmI w F gs q RA rc N (if bg=true then(I.length:Int) else 1) mark rd bg false fv sts rs/\(∃z∈sts,fv=ptrV z.b/\z.l=stateG (insL q.cd.hs) [0])/\(itsR rs).Perm I/\
  (0<=mark/\mark<=2+N*(N+2))/\(0<=rd/\rd<=N+(if bg=true then 1 else 0))/\sts.length<=2+N*(N+2)
 gk:GOk runes caps (insL q.cd.hs)
 rn:q.cd.rn=runes
 ok:CdOk q.cd
 cd:∀w',KpP F w w'->CdAt w' q.gc q.cd
 lt:∀b,F b->b<w.heap.size
 few:I.length<=N+1
 bgI:bg=false->I=[]/\N=0
 ky:(I.map (·.p)).Nodup/\∀k:Int,k∈I.map (fun i=>i.p)->0<=k/\k<=(N:Int)
def F2 (w w':World)(F:Nat->Prop)(b:Nat):Prop:=(F b\/w.heap.size<=b)/\b<w'.heap.size/\nP w' b
theorem StrS.kp {w w':World}{F p:Nat->Prop}{gs:Nat}{q:Mq}{runes:Bool}{caps:Int}{N:Nat}{I:List Itm}{bg:Bool}(h:StrS w F gs q runes caps N I bg)(k:KpP p w w')(hp:∀b,F b->¬p b)(hc:∀w'',KpP F w' w''->CdAt w'' q.gc q.cd):StrS w' F gs q runes caps N I bg:=by
 obtain⟨⟨RA,rc,mark,rd,fv,sts,rs,hS,h1⟩,gk,rn,ok,cd,lt,few,bgI,ky⟩:=h;exact⟨⟨RA,rc,mark,rd,fv,sts,rs,hS.kp k hp,h1⟩,gk,rn,ok,hc,fun b hb=>Nat.lt_of_lt_of_le (lt b hb) k.size,few,bgI,ky⟩
def bgIt (G:List Ins)(D:St->Bool)(N:Int)(I:List Itm)(bg:Bool):List Itm×List (Int×Int):=if bg=true then(I,[]) else(openI D [startI G N],resI D [startI G N])
def feedI (G:List Ins)(D:St->Bool)(t:List Int)(N:Int)(I:List Itm)(bg:Bool):List Itm×List (Int×Int):=
 ((runI G D t N (bgIt G D N I bg).1).1,(bgIt G D N I bg).2++(runI G D t N (bgIt G D N I bg).1).2)
theorem runI_len (G:List Ins)(D:St->Bool):∀(t:List Int) (N:Int) (I:List Itm),(runI G D t N I).1.length<=I.length+t.length/\(runI G D t N I).2.length<=I.length+t.length
 | [],_,I=>by simp[runI]
 | x::t,N,I=>by
  have h:=runI_len G D t (N+1) (openI D (stepI G N x I));have h1:(openI D (stepI G N x I)).length+(shutI D (stepI G N x I)).length=I.length+1:=by
   have e:(stepI G N x I).length=I.length+1:=by unfold stepI;simp
   rw[<-e];unfold openI shutI;have:=List.length_eq_countP_add_countP (fun i:Itm=>D i.l) (l:=stepI G N x I);rw[List.countP_eq_length_filter,List.countP_eq_length_filter] at this;have e2:(stepI G N x I).filter (fun i=>!D i.l)=(stepI G N x I).filter (fun i=>decide ¬D i.l=true):=List.filter_congr (fun a _=>by cases D a.l<;>rfl);rw[e2];omega
  have h2:(resI D (stepI G N x I)).length<=(shutI D (stepI G N x I)).length:=List.length_filterMap_le _ _;rw[runI,List.length_append,List.length_cons]
  simp only
  omega
theorem open_shut (D:St->Bool)(I:List Itm):(openI D I).length+(shutI D I).length=I.length:=by
 unfold openI shutI;have:=List.length_eq_countP_add_countP (fun i:Itm=>D i.l) (l:=I);rw[List.countP_eq_length_filter,List.countP_eq_length_filter] at this;have e2:I.filter (fun i=>!D i.l)=I.filter (fun i=>decide ¬D i.l=true):=List.filter_congr (fun a _=>by cases D a.l<;>rfl);rw[e2];omega
structure FdI (w:World)(F:Nat->Prop)(gs gr:Nat)(q:Mq)(N:Nat)(piece:List Int)(I0:List Itm)(R0:List (Int×Int))(fv:Value)(wr:World)(j:Nat):Prop where
 ex:∃RA rc mark rd sts rs,StmI wr (fun b=>F b\/w.heap.size<=b) gs q RA rc ((N+j:Nat):Int) ((itsR rs).length:Int) mark rd true false fv sts rs/\(∃z∈sts,fv=ptrV z.b/\z.l=stateG (insL q.cd.hs) [0])/\(itsR rs).Perm (runI (insL q.cd.hs) (decL q.cd.ls) (piece.take j) N I0).1/\
  (0<=mark/\mark<=2+((N+j:Nat):Int)*(((N+j:Nat):Int)+2))/\(0<=rd/\rd<=((N+j:Nat):Int)+1)/\sts.length<=2+(N+j)*(N+j+2)
 res:∃A c R,RsAt wr gr A c R/\R.Perm (R0++(runI (insL q.cd.hs) (decL q.cd.ls) (piece.take j) N I0).2)/\∀b,A.map (·.block)=some b->w.heap.size<=b
 kp:KpP F w wr
end
section
open Go.RowKit
attribute [local go_sem ↓] Go.wp_at_zero Go.wp_at_succ
theorem sq_nat (m:Nat):(m+1)*(m+1+2)=m*(m+2)+2*m+3:=by
 have:m+1+2=(m+2)+1:=om;rw[this,Nat.add_mul,Nat.mul_succ];omega
theorem sq_int (m:Int):(m+1)*(m+1+2)=m*(m+2)+2*m+3:=by
 have:m+1+2=(m+2)+1:=om;rw[this,Int.add_mul,Int.mul_add];omega
theorem FdI.next {w wr w2:World}{F:Nat->Prop}{gs gr:Nat}{q:Mq}{N:Nat}{piece:List Int}{I0:List Itm}{R0:List (Int×Int)}{fv:Value}{j:Nat}{mark rd:Int}{sts:List Sta}{rs:List Ru}{A:Option Addr}{R:List (Int×Int)}
 (kp:KpP F w wr) (hj:j<piece.length) (hgr:w.heap.size<=gr) (hA:∀b,A.map (·.block)=some b->w.heap.size<=b) (hpm:(itsR rs).Perm (runI (insL q.cd.hs) (decL q.cd.ls) (piece.take j) N I0).1) (hR:R.Perm (R0++(runI (insL q.cd.hs) (decL q.cd.ls) (piece.take j) N I0).2))
 (hmk:0<=mark/\mark<=2+((N+j:Nat):Int)*(((N+j:Nat):Int)+2)) (hrd:0<=rd/\rd<=((N+j:Nat):Int)+1) (hst:sts.length<=2+(N+j)*(N+j+2)) (hrl:rs.length<=N+j+1)
 (ho:SpO wr w2 (fun b=>F b\/w.heap.size<=b) gs gr q ((N+j:Nat):Int) ((itsR rs).length:Int) mark rd true false fv sts rs A R piece[j]):FdI w F gs gr q N piece I0 R0 fv w2 (j+1):=by
 obtain⟨⟨sts',RA,rc,rs',mark',hS,hf,hp,hm1,hm2,hs⟩,⟨A',c',hr,ha⟩,kk⟩:=ho;have htk:piece.take (j+1)=piece.take j++[piece[j]]:=List.take_succ_eq_append_getElem hj;have hlen:(piece.take j).length=j:=by rw[List.length_take];omega
 have hN1:((N:Int)+((piece.take j).length:Int))=((N+j:Nat):Int):=by rw[hlen];push_cast;rfl
 have hrun:runI (insL q.cd.hs) (decL q.cd.ls) (piece.take (j+1)) N I0=(openI (decL q.cd.ls) (stepI (insL q.cd.hs) ((N+j:Nat):Int) piece[j] (runI (insL q.cd.hs) (decL q.cd.ls) (piece.take j) N I0).1),(runI (insL q.cd.hs) (decL q.cd.ls) (piece.take j) N I0).2++resI (decL q.cd.ls) (stepI (insL q.cd.hs) ((N+j:Nat):Int) piece[j] (runI (insL q.cd.hs) (decL q.cd.ls) (piece.take j) N I0).1)):=by
  rw[htk,runI_append,hN1];simp only[runI,List.append_nil]
 have hsp:=stepI_perm (G:=insL q.cd.hs) (N:=((N+j:Nat):Int)) (x:=piece[j]) hpm;have hop:((itsR rs).length:Int)+1-((shutI (decL q.cd.ls) (stepI (insL q.cd.hs) ((N+j:Nat):Int) piece[j] (itsR rs))).length:Int)=((itsR rs').length:Int):=by
  have h1:=open_shut (decL q.cd.ls) (stepI (insL q.cd.hs) ((N+j:Nat):Int) piece[j] (itsR rs));have h2:(stepI (insL q.cd.hs) ((N+j:Nat):Int) piece[j] (itsR rs)).length=(itsR rs).length+1:=by unfold stepI;simp
  have h3:=hp.length_eq;omega
 rw[hop] at hS;have hnn:((N+j:Nat):Int)+1=((N+(j+1):Nat):Int):=by push_cast;omega
 rw[hnn] at hS;refine⟨⟨RA,rc,mark',rd+1,sts',rs',hS,hf,?_,⟨om,?_⟩,⟨om,om⟩,?_⟩,⟨A',c',_,hr,?_,fun b hb=>?_⟩,?_⟩
 ·rw[hrun];exact hp.trans (openI_perm hsp)
 ·have e1:((N+(j+1):Nat):Int)*(((N+(j+1):Nat):Int)+2)=((N+j:Nat):Int)*(((N+j:Nat):Int)+2)+2*((N+j:Nat):Int)+3:=by
   rw[<-hnn];exact sq_int _
  rw[e1];push_cast at *;omega
 ·have e1:(N+(j+1))*(N+(j+1)+2)=(N+j)*(N+j+2)+2*(N+j)+3:=by
   have:N+(j+1)=(N+j)+1:=om;rw[this];exact sq_nat _
  rw[e1];omega
 ·rw[hrun,<-List.append_assoc];exact hR.append (resI_perm hsp)
 ·rcases ha with e|e
  ·exact hA b (by rw[<-e];exact hb)
  ·exact Nat.le_trans kp.size (e b hb)
 ·refine kp.chain kk (fun i hi=>?_);rcases hi with(hi|hi)|hi|hi
  ·exact .inl hi
  ·exact .inr hi
  ·exact .inr (by rw[hi];exact hgr)
  ·exact .inr (hA i hi)
structure FdO (w w':World)(F:Nat->Prop)(gs:Nat)(q:Mq)(runes:Bool)(caps:Int)(N:Nat)(I:List Itm)(bg:Bool)(piece:List Int)(A:Option Addr)(c:Nat)(R:List (Int×Int)):Prop where
 ow:OwnS w' 0 54 2 A R.length c (flatS R)
 fr:∀b,A.map (·.block)=some b->w.heap.size<=b
 so:R.Pairwise (fun s t=>s.1<=t.1)
 pm:((feedI (insL q.cd.hs) (decL q.cd.ls) piece N I bg).2).Perm R
 st:StrS w' (F2 w w' F) gs q runes caps (N+piece.length) (feedI (insL q.cd.hs) (decL q.cd.ls) piece N I bg).1 true
 kp:KpP F w w'
def RetFd (F:Nat->Prop)(gs:Nat)(q:Mq)(runes:Bool)(caps:Int)(N:Nat)(I:List Itm)(bg:Bool)(piece:List Int)(w:World)(e:Ending)(w':World):Prop:=∃A c R,e=.returned (.tuple #[.slice A R.length c,.int .i64 0])/\FdO w w' F gs q runes caps N I bg piece A c R
theorem runs_len {w:World}{rs:List Ru}(h:∀r∈rs,r.f.At w):rs.length<=(itsR rs).length:=by
 induction rs with
 | nil=>simp
 | cons x t ih=>
  have h3:=ih (fun y hy=>h y (by simp[hy]));have h4:=Fo.len_pos (-1) (h x si);have h5:x.f.len=1:=rfl;have h6:x.its.length=(x.f.pos (-1)).length:=by simp[Ru.its]
  rw[itsR_cons,List.length_append,List.length_cons];omega
theorem bgIt_keys {G:List Ins}{D:St->Bool}{N:Nat}{I:List Itm}{bg:Bool}(hb:bg=false->I=[]/\N=0)(hk:(I.map (·.p)).Nodup/\∀k:Int,k∈I.map (fun i=>i.p)->0<=k/\k<=(N:Int)) :
 (keysI (bgIt G D N I bg).1 (bgIt G D N I bg).2).Nodup/\(∀k:Int,k∈keysI (bgIt G D N I bg).1 (bgIt G D N I bg).2->0<=k/\k<=(N:Int)):=by
 unfold bgIt;cases bg
 ·have h:=keys_split D [startI G N] si;refine⟨h.1,fun k hk=>?_⟩;have:=h.2 k hk;have:k=N:=by simpa[startI] using this
  omega
 ·simp only[if_true,keysI,List.map_nil,List.append_nil];exact hk
theorem feedI_keys {G:List Ins}{D:St->Bool}{N:Nat}{I:List Itm}{bg:Bool}(hb:bg=false->I=[]/\N=0)(hk:(I.map (·.p)).Nodup/\∀k:Int,k∈I.map (fun i=>i.p)->0<=k/\k<=(N:Int))(t:List Int) :
 (keysI (feedI G D t N I bg).1 (feedI G D t N I bg).2).Nodup/\(∀k:Int,k∈keysI (feedI G D t N I bg).1 (feedI G D t N I bg).2->0<=k/\k<=((N+t.length:Nat):Int)):=by
 obtain⟨h1,h2⟩:=bgIt_keys (G:=G) (D:=D) hb hk;unfold feedI;generalize bgIt G D N I bg=P at *;obtain⟨I0,R0⟩:=P
 simp only at *
 have n1:=List.nodup_append.1 h1;have b0:∀k∈I0.map (·.p),0<=k/\k<=(N:Int):=fun k hk=>h2 k (List.mem_append_left _ hk);obtain⟨h3,h4⟩:=runI_keys G D t N I0 n1.1 b0 om;generalize runI G D t N I0=r at *;have hp:(keysI r.1 (R0++r.2)).Perm (R0.map (·.1)++keysI r.1 r.2):=by
  unfold keysI;rw[List.map_append,<-List.append_assoc,<-List.append_assoc];exact List.perm_append_comm.append_right _
 refine⟨hp.nodup_iff.2 (List.nodup_append.2 ⟨n1.2.1,h3,fun a ha b hb2=>?_⟩),fun k hk=>?_⟩
 ·rintro rfl;rcases(h4 a hb2).2.2 with h5|h5
  ·exact n1.2.2 a h5 a ha rfl
  ·have:=(h2 a (List.mem_append_right _ ha)).2;omega
 ·rcases List.mem_append.1 (hp.mem_iff.1 hk) with hk|hk
  ·have:=h2 k (List.mem_append_right _ hk);push_cast;omega
  ·have:=h4 k hk;push_cast;omega
theorem StmI.extT {w w':World}{F:Nat->Prop}{gs:Nat}{q:Mq}{RA:Option Addr}{rc:Nat}{N op mark rd:Int}{bg cl:Bool}{fv:Value}{sts:List Sta}{rs:List Ru}(h:StmI w F gs q RA rc N op mark rd bg cl fv sts rs)(x:Ext w w'):StmI w' F gs q RA rc N op mark rd bg cl fv sts rs:=h.kp (p:=fun _=>False) (KpP.of_ext x) (fun _ _ h=>h)
theorem FdI.fin {w wr w':World}{F:Nat->Prop}{gs gr:Nat}{q:Mq}{runes:Bool}{caps:Int}{N:Nat}{I:List Itm}{bg:Bool}{piece:List Int}{fv:Value}{A:Option Addr}{c:Nat}{R m:List (Int×Int)}(h0:StrS w F gs q runes caps N I bg)
 (h:FdI w F gs gr q N piece (bgIt (insL q.cd.hs) (decL q.cd.ls) N I bg).1 (bgIt (insL q.cd.hs) (decL q.cd.ls) N I bg).2 fv wr piece.length) (hr:RsAt wr gr A c R) (hR:R.Perm (feedI (insL q.cd.hs) (decL q.cd.ls) piece N I bg).2) (hA:∀b,A.map (·.block)=some b->w.heap.size<=b)
 (hp:R.Perm m) (hs:m.Pairwise (fun s t=>s.1<=t.1)) (ho:OwnQ2 w' 0 A c m) (kk:KpP (fun b=>A.map (·.block)=some b) wr w'):FdO w w' F gs q runes caps N I bg piece A c m:=by
 obtain⟨⟨RA,rc,mark,rd,sts,rs,hS,hf,hpm,hmk,hrd,hst⟩,_,kp⟩:=h;rw[List.take_length] at hpm;have hkp:KpP F w w':=kp.chain kk (fun i hi=>.inr (hA i hi));have hkeys:=feedI_keys (G:=insL q.cd.hs) (D:=decL q.cd.ls) h0.bgI h0.ky piece;have hnA:∀b,(F b\/w.heap.size<=b)/\b<wr.heap.size/\nP wr b->¬A.map (·.block)=some b:=fun b hb e=>by
  obtain⟨_,cur,hh⟩:=OwnS.blt hr.2 e;exact hb.2.2 cur hh
 have hS2:StmI w' (F2 w w' F) gs q RA rc ((N+piece.length:Nat):Int) ((itsR rs).length:Int) mark rd true false fv sts rs:=(hS.tight.kp kk hnA).mono (fun b hb=>⟨hb.1,Nat.lt_of_lt_of_le hb.2.1 kk.size,fun cs e=>hb.2.2 cs (by rw[<-kk.block b hb.2.1 (hnA b hb)];exact e)⟩);have hfd:(feedI (insL q.cd.hs) (decL q.cd.ls) piece N I bg).1=(runI (insL q.cd.hs) (decL q.cd.ls) piece N (bgIt (insL q.cd.hs) (decL q.cd.ls) N I bg).1).1:=rfl;refine⟨ho,hA,hs,hR.symm.trans hp,⟨⟨RA,rc,mark,rd,fv,sts,rs,?_,hf,hpm,hmk,by simpa using hrd,hst⟩,h0.gk,h0.rn,h0.ok,fun w'' k=>?_,fun b hb=>hb.2.1,?_,fun h=>by simp at h,?_⟩,hkp⟩
 ·rw[if_pos rfl,hfd,<-hpm.length_eq];exact hS2
 ·exact h0.cd w'' (hkp.chain k (fun i hi=>hi.1))
 ·rw[hfd];have h1:=(runI_len (insL q.cd.hs) (decL q.cd.ls) piece N (bgIt (insL q.cd.hs) (decL q.cd.ls) N I bg).1).1;have h2:(bgIt (insL q.cd.hs) (decL q.cd.ls) N I bg).1.length<=N+1:=by
   unfold bgIt;cases bg
   ·have:=open_shut (decL q.cd.ls) [startI (insL q.cd.hs) N];simp only[List.length_cons,List.length_nil] at this;simp only[Bool.false_eq_true,if_false];omega
   ·simp only[if_true];exact h0.few
  omega
 ·have h3:=List.nodup_append.1 hkeys.1;exact⟨h3.1,fun k hk=>hkeys.2 k (List.mem_append_left _ hk)⟩
theorem ULz1 {P:Prop} (h:P:=by
 have HSP:=lh (step_any wr (fun b=>F b\/w.heap.size<=b) gs gr q runes caps gk RA2 rc2 ((N+j:Nat):Int) ((itsR rs2).length:Int) mark2 rd2 true false fv sts2 rs2 A2 c2 R2 piece[j] hS2 hf2 (fun w'' k=>cd w'' (kp2.chain k (fun i hi=>hi))) ok hr2 (fun b hb=>.inr (Nat.le_trans kp2.size hb)) om om om om om om om);have HNX:=lh (fun(w2:World) (ho:SpO wr w2 (fun b=>F b\/w.heap.size<=b) gs gr q ((N+j:Nat):Int) ((itsR rs2).length:Int) mark2 rd2 true false fv sts2 rs2 A2 R2 piece[j])=>FdI.next kp2 hlt HGR.out hA2 hpm2 hR2 hmk2 hrd2 hsl2 hrl2 ho);generalize piece[j]=x at *;have HPA:=lh hPA;rw[hPA];clear hS2 hf2 hpm2 hmk2 hrd2 hsl2 hr2 hR2 hA2 kp2 hb1 hil hrlen hrun hmul hmulI hrl2 HD hPA
 go_wp2_with (go_at_call 67;refine HSP.out.mono ?_;rintro e w5 ⟨rfl,ho⟩)
 have HN5:=lh (HNX.out w5 ho);clear ho HNX HSP;go_roundw
 case rel=>exact⟨j+1,by go_num,om,HN5⟩
 case measure=>simp[intOf];omega):P:=h
theorem ULz2 {P:Prop} (h:P:=by
 have HSO:=lh (sorted_any 0 c2 A2 R2 hgd wr hr2.2 hRl);have gr0:wr.cell? ⟨gr,0,none⟩=some (.slice A2 R2.length c2):=hr2.1.cell 0;have HFN:=lh (fun(w9:World) (m:List Sp) (h1:R2.Perm m) (h2:m.Pairwise (fun s t=>s.1<=t.1)) (h3:OwnQ2 w9 0 A2 c2 m) (h4:KpP (fun b=>A2.map (·.block)=some b) wr w9)=>FdI.fin HS.out HD.out hr2 hR3 hA2 h1 h2 h3 h4);clear hr2 hR2 hR3 hA2 kp2 hkeys hgd hRl HD
 go_wp2_with (go_at_call 68;refine HSO.out.mono ?_;rintro e w9 ⟨m,rfl,h1,h2,h3,h4⟩)
 go_ret2
 exact⟨A2,c2,m,rfl,HFN.out w9 m h1 h2 h3 h4⟩):P:=h
theorem ULz3 {P:Prop} (h:P:=by
 have h2:=HBI.out;have h3:(piece.take j).length<=j:=by rw[List.length_take];omega
 omega):P:=h
theorem ULz4 {P:Prop} (h:P:=by
 have e:((N+j:Nat):Int)*(((N+j:Nat):Int)+2)=(((N+j)*(N+j+2):Nat):Int):=by rw[Int.natCast_mul,Int.natCast_add (N+j) 2];rfl
 rw[e];exact Int.ofNat_le.2 hmul):P:=h
theorem feed_any (w:World)(F:Nat->Prop)(gs:Nat)(q:Mq)(runes:Bool)(caps:Int)(N:Nat)(I:List Itm)(bg:Bool)(hS:StrS w F gs q runes caps N I bg)(PA:Option Addr)(pc:Nat)(piece:List Int)(hp:∀w',KpP F w w'->IL w' PA pc piece)(hv:piece.all (symV runes)=true)(hN:N+piece.length<=60) :
 Calls Tryz.prog 16 #[.pointer (some ⟨gs,0,none⟩),.slice PA piece.length pc] w (RetFd F gs q runes caps N I bg piece w):=by
 obtain⟨⟨RA,rc,mark,rd,fv,sts,rs,hst,hf,hpm,hmk,hrd,hsl⟩,gk,rn,ok,cd,lt,few,bgI,ky⟩:=id hS;have hpl:=(hp w (KpP.refl _ _)).len;have hcd:=cd w (KpP.refl _ _);have s5:w.cell? ⟨gs,5,none⟩=some (.bool false):=hst.st.cell 5;have s2:w.cell? ⟨gs,2,none⟩=some (.int .i64 N):=hst.st.cell 2;have s0:w.cell? ⟨gs,0,none⟩=some (.pointer (some ⟨q.gm,0,none⟩)):=hst.st.cell 0;have m0:w.cell? ⟨q.gm,0,none⟩=some (.pointer (some ⟨q.gc,0,none⟩)):=hst.ma.blk.cell 0;have c1:w.cell? ⟨q.gc,1,none⟩=some (.bool runes):=by rw[<-rn];exact hcd.blk.cell 1
 have HTV:=lh (show Calls Tryz.prog 64 #[.slice PA piece.length pc,.bool runes] w (RetV (.int .i64 0) w) by
  have h:=tvalid_any PA pc piece runes w (hp w (KpP.refl _ _));have e:textE runes piece=0:=by unfold textE;rw[if_neg om,if_pos hv]
  rwa [e] at h)
 have hlb:¬(piece.length:Int)>65536-(N:Int):=om;have hlb2:¬65536-(N:Int)<(piece.length:Int):=om;have HS:=lh hS;have HST:=lh hst;have HF:=lh hf;have HPM:=lh hpm;have HP:=lh hp;have HBD:=lh (And.intro hmk (And.intro hrd hsl));clear hS hst hf hpm hp hmk hrd hsl hcd;cases bg
 ·obtain⟨hI0,hN0⟩:=bgI rfl;have hrs:rs=[]:=by
   have h1:=runs_len HST.out.gt;have h2:=HPM.out.length_eq;rw[hI0] at h2;exact List.length_eq_zero_iff.1 (by simp only[List.length_nil] at h2;omega)
  subst hrs;obtain⟨zf,hzf,hfv,hzl⟩:=HF.out;have HZF:=lh (And.intro hzf (And.intro hfv hzl));clear hzf hfv hzl;go_enter Tryz.func16,Tryz.ntmps16
  go_upto_region 9 with(go_at_call 64;refine HTV.out.mono ?_;rintro e w1 ⟨rfl,x1⟩)
  have BG:=Blk.new w1 37 #[.slice none 0 0];have EG:=x1.trans (Ext.alloc w1 (.cells #[.slice none 0 0] 37));obtain⟨gr,hgr⟩:∃g,g=w1.heap.size:=⟨_,rfl⟩;have HGR:=lh (show w.heap.size<=gr by rw[hgr];exact x1.size)
  rw[<-hgr] at BG ⊢;clear hgr;generalize w1.alloc (.cells #[.slice none 0 0] 37)=w2 at *;have st2:=HST.out.st.ext EG;have s4:w2.cell? ⟨gs,4,none⟩=some (.bool false):=st2.cell 4;have f4:=st2.frz 4;have HBI:=lh (show(bgIt (insL q.cd.hs) (decL q.cd.ls) N I false).1.length<=N+1/\(bgIt (insL q.cd.hs) (decL q.cd.ls) N I false).2.length<=1 by
   have:=open_shut (decL q.cd.ls) [startI (insL q.cd.hs) N];have h2:(resI (decL q.cd.ls) [startI (insL q.cd.hs) N]).length<=(shutI (decL q.cd.ls) [startI (insL q.cd.hs) N]).length:=List.length_filterMap_le _ _;simp only[List.length_cons,List.length_nil] at this;unfold bgIt;simp only[Bool.false_eq_true,if_false];omega)
  go_upto_region 11 with fail
  have k3:KpP (·=gs) w2 (w2.setCell ⟨gs,4,none⟩ (.bool true)):=KpP.set (p:=(·=gs)) (x:=⟨gs,4,none⟩) (KpP.refl _ _) (.inl rfl) _;have ngr:gr≠gs:=by have:=HST.out.st.lt;have:=HGR.out;omega
  have st3:Blk (w2.setCell ⟨gs,4,none⟩ (.bool true)) gs 126 (strC ⟨q.gm,RA,0,rc,N,true,false⟩ 1):=by have:=st2.set 4 (.bool true);simpa[strC] using this
  have HQ3:=lh (show Blk (w2.setCell ⟨gs,4,none⟩ (.bool true)) gs 126 (strC ⟨q.gm,RA,0,rc,N,true,false⟩ 1)/\MaI (w2.setCell ⟨gs,4,none⟩ (.bool true)) F q mark rd fv sts/\RsAt (w2.setCell ⟨gs,4,none⟩ (.bool true)) gr none 0 []/\KpP F w (w2.setCell ⟨gs,4,none⟩ (.bool true)) from
   ⟨st3,(HST.out.ma.ext EG).kpT k3 (fun b hb=>by
    have hb':b=gs:=hb;subst hb';exact⟨_,_,st2,by decide,by decide,by decide⟩),⟨k3.blk BG ngr,OwnS.nil _ _ _ _⟩,KpP.trans (KpP.of_ext EG) (k3.mono (fun i hi=>by rw[show i=gs from hi];exact HST.out.fg))⟩)
  clear st2 st3 s4 f4 k3 BG ngr s5 s2 s0 m0 c1 HTV x1 hlb hlb2;have HEG:=lh EG;clear EG;generalize w2.setCell ⟨gs,4,none⟩ (.bool true)=w3 at *;have m5:w3.cell? ⟨q.gm,5,none⟩=some (.pointer (some ⟨zf.b,0,none⟩)):=by rw[<-show fv=.pointer (some ⟨zf.b,0,none⟩) from HZF.out.2.1];exact HQ3.out.2.1.blk.cell 5
  have z1:w3.cell? ⟨zf.b,1,none⟩=some (.bool (doneG (insL q.cd.hs) (stateG (insL q.cd.hs) [0]))):=by rw[<-HZF.out.2.2];exact(HQ3.out.2.1.sq.at_ zf HZF.out.1).blk.cell 1
  obtain⟨dn,hdn⟩:∃dn,Hid (dn=doneG (insL q.cd.hs) (stateG (insL q.cd.hs) [0])):=⟨_,lh rfl⟩
  rw[<-hdn.out] at z1;have HSTA:=lh (start_any gs ⟨q.gm,RA,0,rc,N,true,false⟩ 1 zf.b dn w3 HQ3.out.1 m5 z1 (by show 0<=(N:Int)/\(N:Int)<=1000000;omega));clear m5 z1;have HAD:=lh (fun(w6:World) (gb gl:Nat) (x6:Ext w3 w6) (hgb:w3.heap.size<=gb) (hga:(grp gb (N:Int) (if dn=true then(N:Int) else -1) none 0 .nil).At w6) (hgl:Blk w6 gl 140 #[.pointer (some ⟨zf.b,0,none⟩),.pointer (some ⟨gb,0,none⟩)])=>
   show Calls Tryz.prog 65 #[.pointer (some ⟨gs,0,none⟩),.slice (some ⟨gl,0,none⟩) 1 1,.pointer (some ⟨gr,0,none⟩)] w6 (RetAd (fun b=>F b\/w.heap.size<=b) gs gr q N 1 mark rd true false fv sts [⟨zf.b,stateG (insL q.cd.hs) [0],gb,N,if dn=true then(N:Int) else -1,none,0,.nil⟩] none [] w6) by
    have hrf:(⟨zf.b,stateG (insL q.cd.hs) [0],gb,N,if dn=true then(N:Int) else -1,none,0,.nil⟩:Ru).f=grp gb (N:Int) (if dn=true then(N:Int) else -1) none 0 .nil:=rfl;have hfp:fpR [(⟨zf.b,stateG (insL q.cd.hs) [0],gb,N,if dn=true then(N:Int) else -1,none,0,.nil⟩:Ru)]=[gb]:=by
     rw[fpR_cons,hrf,grp_fp];simp[blkL,Fo.fp,fpR]
    have hwb:=Nat.le_trans HQ3.out.2.2.2.size hgb;refine advance_any w6 (fun b=>F b\/w.heap.size<=b) gs gr q RA 0 rc N 1 mark rd true false fv sts (some ⟨gl,0,none⟩) 1 [_] none 0 [] (HQ3.out.1.ext x6) ((HQ3.out.2.1.ext x6).mono (fun b hb=>.inl hb)) ?_ HST.out.rd_ ?_ (fun r hr=>?_) (fun r hr=>?_) (by rw[hfp];simp) (fun y hy=>?_) (.inl HST.out.fg) (fun r hr hd y hy=>?_) ⟨HQ3.out.2.2.1.1.ext x6,OwnS.nil _ _ _ _⟩ (fun b hb=>.inr (Nat.le_trans HQ3.out.2.2.2.size (Nat.le_trans x6.size hb))) ?_ si om
    ·have:=HBD.out.2.1;simp only[Bool.false_eq_true,if_false] at this;omega
    ·have:=OwnS.of_blk (base:=0) (size:=2) (n:=1) (c:=1) hgl (Nat.zero_le _) rfl (Nat.le_refl _) um;exact this
    ·rw[List.mem_singleton.1 hr];exact⟨zf,HZF.out.1,rfl,HZF.out.2.2⟩
    ·rw[List.mem_singleton.1 hr];exact hga
    ·rw[hfp] at hy;rw[List.mem_singleton.1 hy];exact .inr hwb
    ·rw[List.mem_singleton.1 hr] at hd hy;rw[hrf,grp_pos,if_pos (by omega:(0:Int)<=N),if_pos (by omega:(-1:Int)<0)] at hy;have hd2:dn=true:=by rw[hdn.out];exact hd
     rw[List.mem_singleton.1 hy,if_pos hd2]
    ·rw[itsR_cons];unfold Ru.its;rw[hrf,grp_pos,if_pos (by omega:(0:Int)<=N)];simp[itsR])
  go_wp2_with (go_at_call 66;refine HSTA.out.mono ?_;rintro e w6 ⟨gb,rfl,hgb,hga,x6⟩)
  have X7:=x6.trans (Ext.alloc w6 (.cells #[.pointer (some ⟨zf.b,0,none⟩),.pointer (some ⟨gb,0,none⟩)] 140));refine(HAD.out _ gb w6.heap.size X7 hgb (hga.ext (Ext.alloc _ _)) (Blk.new _ _ _)).mono ?_;rintro e w8 ⟨rfl,ho⟩;have HFD:Hid (FdI w F gs gr q N piece (bgIt (insL q.cd.hs) (decL q.cd.ls) N I false).1 (bgIt (insL q.cd.hs) (decL q.cd.ls) N I false).2 fv w8 0):=lh (by
   have hits:itsR [(⟨zf.b,stateG (insL q.cd.hs) [0],gb,N,if dn=true then(N:Int) else -1,none,0,.nil⟩:Ru)]=[startI (insL q.cd.hs) N]:=by
    have hrf:(⟨zf.b,stateG (insL q.cd.hs) [0],gb,N,if dn=true then(N:Int) else -1,none,0,.nil⟩:Ru).f=grp gb (N:Int) (if dn=true then(N:Int) else -1) none 0 .nil:=rfl;rw[itsR_cons];unfold Ru.its;rw[hrf,grp_pos,if_pos (by omega:(0:Int)<=N),if_pos (by omega:(-1:Int)<0),hdn.out]
    rfl
   obtain⟨⟨sts',RA',rc',rs',hS',hzk,hpm'⟩,⟨A',c',hr',ha'⟩,kp'⟩:=ho;rw[hits] at hS' hpm' hr';have hos:=open_shut (decL q.cd.ls) [startI (insL q.cd.hs) N];have hpl':=hpm'.length_eq;simp only[List.length_cons,List.length_nil] at hos;have hop:(1:Int)-((shutI (decL q.cd.ls) [startI (insL q.cd.hs) N]).length:Int)=((itsR rs').length:Int):=om;rw[hop] at hS';have hk8:KpP F w w8:=(KpP.trans HQ3.out.2.2.2 (KpP.of_ext X7)).chain kp' (fun i hi=>?_)
   ·have hrd:=HBD.out.2.1;simp only[Bool.false_eq_true,if_false] at hrd;refine⟨⟨RA',rc',mark,rd+1,sts',rs',hS',?_,?_,HBD.out.1,⟨om,om⟩,?_⟩,⟨A',c',_,hr',?_,fun b hb=>?_⟩,hk8⟩
    ·have h1:zkey zf∈sts'.map zkey:=by rw[hzk];exact List.mem_map.2 ⟨zf,HZF.out.1,rfl⟩
     obtain⟨z2,h2,h3⟩:=List.mem_map.1 h1;exact⟨z2,h2,by rw[HZF.out.2.1,<-show z2.b=zf.b from congrArg (fun t=>t.1) h3],(congrArg (fun t=>t.2.2.2.1) h3:z2.l=zf.l).trans HZF.out.2.2⟩
    ·simpa[bgIt,runI] using hpm'
    ·have:sts'.length=sts.length:=by have:=congrArg List.length hzk;simpa using this
     rw[this];exact HBD.out.2.2
    ·simp[bgIt,runI]
    ·rcases ha' with e1|e1
     ·rw[e1] at hb;simp at hb
     ·exact Nat.le_trans (Nat.le_trans HQ3.out.2.2.2.size X7.size) (e1 b hb)
   ·rcases hi with hi|hi|hi|hi|⟨z,hz,hi⟩|hi
    ·exact .inl (by rw[hi];exact HST.out.ma.fm)
    ·exact .inl (by rw[hi];exact HST.out.fg)
    ·exact .inr (by rw[hi];exact HGR.out)
    ·simp at hi
    ·exact .inl (by rw[<-hi];exact(HST.out.ma.sq.fz z hz).1)
    ·right
     rw[fpR_cons] at hi;have h2:i=gb:=by
      have h3:(⟨zf.b,stateG (insL q.cd.hs) [0],gb,N,if dn=true then(N:Int) else -1,none,0,.nil⟩:Ru).f.fp=[gb]:=by
       show(grp gb (N:Int) (if dn=true then(N:Int) else -1) none 0 .nil).fp=[gb]
       rw[grp_fp];simp[blkL,Fo.fp]
      rw[h3] at hi
      simpa[fpR] using hi
     rw[h2];exact Nat.le_trans HQ3.out.2.2.2.size hgb)
  clear ho X7 hga hgb x6 HAD HSTA HQ3 HEG HZF
  go_upto_region 13 with fail
  go_loopw [52] (fun v wr=>∃j:Nat,v=.int .i64 j/\j<=piece.length/\Hid (FdI w F gs gr q N piece (bgIt (insL q.cd.hs) (decL q.cd.ls) N I false).1 (bgIt (insL q.cd.hs) (decL q.cd.ls) N I false).2 fv wr j)) (fun v _=>piece.length-(intOf v).toNat)
  case atStart=>exact⟨0,rfl,om,HFD⟩
  case round=>
   obtain⟨j,rfl,hj,HD⟩:=hrel;by_cases hlt:j<piece.length
   ·have hjI:(j:Int)<piece.length:=om;obtain⟨⟨RA2,rc2,mark2,rd2,sts2,rs2,hS2,hf2,hpm2,hmk2,hrd2,hsl2⟩,⟨A2,c2,R2,hr2,hR2,hA2⟩,kp2⟩:=HD.out;obtain⟨pb,po,hPA,pcl⟩:=(HP.out wr kp2).get hlt;have hb1:(runI (insL q.cd.hs) (decL q.cd.ls) (piece.take j) N (bgIt (insL q.cd.hs) (decL q.cd.ls) N I false).1).1.length<=62/\(runI (insL q.cd.hs) (decL q.cd.ls) (piece.take j) N (bgIt (insL q.cd.hs) (decL q.cd.ls) N I false).1).2.length<=62/\(bgIt (insL q.cd.hs) (decL q.cd.ls) N I false).2.length<=1:=by
     have h1:=runI_len (insL q.cd.hs) (decL q.cd.ls) (piece.take j) N (bgIt (insL q.cd.hs) (decL q.cd.ls) N I false).1;exact ULz3
    have hil:=hpm2.length_eq;have hrlen:=hR2.length_eq;rw[List.length_append] at hrlen;have hrun:=runs_len hS2.gt;have hmul:(N+j)*(N+j+2)<=60*62:=Nat.mul_le_mul om om;have hmulI:((N+j:Nat):Int)*(((N+j:Nat):Int)+2)<=60*62:=by
     exact ULz4
    have hrl2:rs2.length<=N+j+1:=by
     have h1:=(runI_len (insL q.cd.hs) (decL q.cd.ls) (piece.take j) N (bgIt (insL q.cd.hs) (decL q.cd.ls) N I false).1).1;exact ULz3
    exact ULz1
   ·have hjI:¬(j:Int)<piece.length:=om;obtain rfl:j=piece.length:=om;obtain⟨_,⟨A2,c2,R2,hr2,hR2,hA2⟩,kp2⟩:=id HD.out;rw[List.take_length] at hR2;have hR3:R2.Perm (feedI (insL q.cd.hs) (decL q.cd.ls) piece N I false).2:=hR2;have hkeys:=feedI_keys (G:=insL q.cd.hs) (D:=decL q.cd.ls) HS.out.bgI HS.out.ky piece;have hgd:∀s∈R2,prOk s:=fun s hs=>by
     have h1:s.1∈(feedI (insL q.cd.hs) (decL q.cd.ls) piece N I false).2.map (·.1):=List.mem_map.2 ⟨s,hR3.mem_iff.1 hs,rfl⟩;have h2:=hkeys.2 s.1 (List.mem_append_right _ h1);unfold prOk;omega
    have hRl:R2.length<=1000000:=by
     have h1:=hR2.length_eq;rw[List.length_append] at h1;have h2:=runI_len (insL q.cd.hs) (decL q.cd.ls) piece N (bgIt (insL q.cd.hs) (decL q.cd.ls) N I false).1;have h3:=HBI.out;omega
    exact ULz2
 ·go_enter Tryz.func16,Tryz.ntmps16
  go_upto_region 9 with(go_at_call 64;refine HTV.out.mono ?_;rintro e w1 ⟨rfl,x1⟩)
  have BG:=Blk.new w1 37 #[.slice none 0 0];have EG:=x1.trans (Ext.alloc w1 (.cells #[.slice none 0 0] 37));obtain⟨gr,hgr⟩:∃g,g=w1.heap.size:=⟨_,rfl⟩;have HGR:=lh (show w.heap.size<=gr by rw[hgr];exact x1.size)
  rw[<-hgr] at BG ⊢;clear hgr;generalize w1.alloc (.cells #[.slice none 0 0] 37)=w2 at *;have s4:w2.cell? ⟨gs,4,none⟩=some (.bool true):=(HST.out.st.ext EG).cell 4;have HBI:=lh (show(bgIt (insL q.cd.hs) (decL q.cd.ls) N I true).1.length<=N+1/\(bgIt (insL q.cd.hs) (decL q.cd.ls) N I true).2.length<=1 by unfold bgIt;simp only[if_true];exact⟨few,by simp⟩);have HFD:Hid (FdI w F gs gr q N piece (bgIt (insL q.cd.hs) (decL q.cd.ls) N I true).1 (bgIt (insL q.cd.hs) (decL q.cd.ls) N I true).2 fv w2 0):=lh (by
   have h1:=HST.out
   first|rw[if_pos rfl] at h1|rw[if_pos trivial] at h1
   rw[<-HPM.out.length_eq] at h1;refine⟨⟨RA,rc,mark,rd,sts,rs,(h1.extT EG).mono (fun b hb=>.inl hb),HF.out,?_,?_,?_,?_⟩,⟨none,0,[],⟨BG,OwnS.nil _ _ _ _⟩,?_,by simp⟩,KpP.of_ext EG⟩
   ·simpa[bgIt,runI] using HPM.out
   ·simpa using HBD.out.1
   ·simpa using HBD.out.2.1
   ·simpa using HBD.out.2.2
   ·simp[bgIt,runI])
  clear s5 s2 s0 m0 c1 HTV x1 BG hlb hlb2;have HEG:=lh EG;clear EG
  go_upto_region 13 with fail
  go_loopw [52] (fun v wr=>∃j:Nat,v=.int .i64 j/\j<=piece.length/\Hid (FdI w F gs gr q N piece (bgIt (insL q.cd.hs) (decL q.cd.ls) N I true).1 (bgIt (insL q.cd.hs) (decL q.cd.ls) N I true).2 fv wr j)) (fun v _=>piece.length-(intOf v).toNat)
  case atStart=>exact⟨0,rfl,om,HFD⟩
  case round=>
   obtain⟨j,rfl,hj,HD⟩:=hrel;by_cases hlt:j<piece.length
   ·have hjI:(j:Int)<piece.length:=om;obtain⟨⟨RA2,rc2,mark2,rd2,sts2,rs2,hS2,hf2,hpm2,hmk2,hrd2,hsl2⟩,⟨A2,c2,R2,hr2,hR2,hA2⟩,kp2⟩:=HD.out;obtain⟨pb,po,hPA,pcl⟩:=(HP.out wr kp2).get hlt;have hb1:(runI (insL q.cd.hs) (decL q.cd.ls) (piece.take j) N (bgIt (insL q.cd.hs) (decL q.cd.ls) N I true).1).1.length<=62/\(runI (insL q.cd.hs) (decL q.cd.ls) (piece.take j) N (bgIt (insL q.cd.hs) (decL q.cd.ls) N I true).1).2.length<=62/\(bgIt (insL q.cd.hs) (decL q.cd.ls) N I true).2.length<=1:=by
     have h1:=runI_len (insL q.cd.hs) (decL q.cd.ls) (piece.take j) N (bgIt (insL q.cd.hs) (decL q.cd.ls) N I true).1;exact ULz3
    have hil:=hpm2.length_eq;have hrlen:=hR2.length_eq;rw[List.length_append] at hrlen;have hrun:=runs_len hS2.gt;have hmul:(N+j)*(N+j+2)<=60*62:=Nat.mul_le_mul om om;have hmulI:((N+j:Nat):Int)*(((N+j:Nat):Int)+2)<=60*62:=by
     exact ULz4
    have hrl2:rs2.length<=N+j+1:=by
     have h1:=(runI_len (insL q.cd.hs) (decL q.cd.ls) (piece.take j) N (bgIt (insL q.cd.hs) (decL q.cd.ls) N I true).1).1;exact ULz3
    exact ULz1
   ·have hjI:¬(j:Int)<piece.length:=om;obtain rfl:j=piece.length:=om;obtain⟨_,⟨A2,c2,R2,hr2,hR2,hA2⟩,kp2⟩:=id HD.out;rw[List.take_length] at hR2;have hR3:R2.Perm (feedI (insL q.cd.hs) (decL q.cd.ls) piece N I true).2:=hR2;have hkeys:=feedI_keys (G:=insL q.cd.hs) (D:=decL q.cd.ls) HS.out.bgI HS.out.ky piece;have hgd:∀s∈R2,prOk s:=fun s hs=>by
     have h1:s.1∈(feedI (insL q.cd.hs) (decL q.cd.ls) piece N I true).2.map (·.1):=List.mem_map.2 ⟨s,hR3.mem_iff.1 hs,rfl⟩;have h2:=hkeys.2 s.1 (List.mem_append_right _ h1);unfold prOk;omega
    have hRl:R2.length<=1000000:=by
     have h1:=hR2.length_eq;rw[List.length_append] at h1;have h2:=runI_len (insL q.cd.hs) (decL q.cd.ls) piece N (bgIt (insL q.cd.hs) (decL q.cd.ls) N I true).1;have h3:=HBI.out;omega
    exact ULz2
structure ClI (w:World)(F:Nat->Prop)(gs gr:Nat)(h:Hst)(op:Int)(rs:List Ru)(wr:World)(k:Nat):Prop where
 st:Blk wr gs 126 (strC h (op-(itsR (rs.take k)).length))
 ow:OwnS wr 0 140 2 h.RA rs.length h.rc (flatR rs)
 gt:∀r∈rs,r.f.At wr
 res:∃A c,RsAt wr gr A c (resOf (itsR (rs.take k)))/\∀b,A.map (·.block)=some b->w.heap.size<=b
 kp:KpP F w wr
theorem ClI.ext {w wr w2:World}{F:Nat->Prop}{gs gr:Nat}{h:Hst}{op:Int}{rs:List Ru}{k:Nat}(hI:ClI w F gs gr h op rs wr k)(x:Ext wr w2):ClI w F gs gr h op rs w2 k:=by
 obtain⟨st,ow,gt,⟨A,c,hr,ha⟩,kp⟩:=hI;exact⟨st.ext x,OwnS.ext ow x,fun r hr=>(gt r hr).ext x,⟨A,c,⟨hr.1.ext x,OwnS.ext hr.2 x⟩,ha⟩,kp.trans (KpP.of_ext x)⟩
theorem ClI.next {w wr w2:World}{F:Nat->Prop}{gs gr:Nat}{h:Hst}{op:Int}{rs:List Ru}{k:Nat}{A:Option Addr}{c:Nat}(hI:ClI w F gs gr h op rs wr k)(hk:k<rs.length)(hr:RsAt wr gr A c (resOf (itsR (rs.take k))))(ha:∀b,A.map (·.block)=some b->w.heap.size<=b)(hF:F gs)(hgr:w.heap.size<=gr)
 (ho:RsO wr w2 gs gr h (op-(itsR (rs.take k)).length) A (resOf (itsR (rs.take k))) (rs[k].f.pos (-1))):ClI w F gs gr h op rs w2 (k+1):=by
 obtain⟨st,ow,gt,_,kp⟩:=hI;obtain⟨st',⟨A',c',hr',ha'⟩,kk⟩:=ho;have htk:rs.take (k+1)=rs.take k++[rs[k]]:=List.take_succ_eq_append_getElem hk;have hit:itsR (rs.take (k+1))=itsR (rs.take k)++rs[k].its:=by rw[htk,itsR_one]
 have hil:rs[k].its.length=(rs[k].f.pos (-1)).length:=by simp[Ru.its]
 refine⟨?_,OwnS.kp ow kk (own_noF ow (fun b hb cs e=>rsF_ne st hr (show Blk wr b _ cs from e) de de de hb)),fun r hrm=>Fo.At.kpT kk (rsF_noG st hr) (gt r hrm),⟨A',c',?_,fun b hb=>?_⟩,kp.chain kk (fun i hi=>?_)⟩
 ·have e:op-((itsR (rs.take (k+1))).length:Int)=op-((itsR (rs.take k)).length:Int)-((rs[k].f.pos (-1)).length:Int):=by
   rw[hit,List.length_append,hil];push_cast;omega
  rw[e];exact st'
 ·rw[hit,resOf_append,its_res];exact hr'
 ·rcases ha' with e|e
  ·exact ha b (by rw[<-e];exact hb)
  ·exact Nat.le_trans kp.size (e b hb)
 ·rcases hi with hi|hi|hi
  ·exact .inl (by rw[hi];exact hF)
  ·exact .inr (by rw[hi];exact hgr)
  ·exact .inr (ha i hi)
def clIt (G:List Ins)(N:Int)(I:List Itm)(bg:Bool):List Itm:=if bg=true then I else[startI G N]
def RetClo (F:Nat->Prop)(q:Mq)(N:Nat)(I:List Itm)(bg:Bool)(w:World)(e:Ending)(w':World):Prop:=∃A c R,e=.returned (.tuple #[.slice A R.length c,.int .i64 0])/\OwnS w' 0 54 2 A R.length c (flatS R)/\(∀b,A.map (·.block)=some b->w.heap.size<=b)/\
 R.Pairwise (fun s t=>s.1<=t.1)/\(resOf (clIt (insL q.cd.hs) N I bg)).Perm R/\KpP F w w'
theorem UOz1 {P:Prop} (h:P:=by
 simp only at hLA
 rw[hLA];clear hf1 hf2 hf3 hf4 hfg hlc hCE hmem hil hRl HLN2 hpl hr2 hA2 HC ER hLA
 go_wp2_with (go_at_call 72;refine HRES.out.mono ?_;rintro e w5 ⟨rfl,ho⟩)
 have HN5:=lh (HNX.out w5 ho);clear ho HNX HRES;go_roundw
 case rel=>exact⟨k+1,by go_num,om,by rw[<-HLA.out];exact HN5⟩
 case measure=>simp[intOf];omega):P:=h
theorem UOz2 {P:Prop} (h:P:=by
 have HA2:=lh hA2;clear hA2 hRl
 go_wp2_with (go_at_call 68;refine HSO.out.mono ?_;rintro e w9 ⟨m,rfl,h1,h2,h3,h4⟩)
 go_ret2
 exact⟨A2,c2,m,rfl,h3,HA2.out,h2,HRF.out.symm.trans h1,HR3.out.2.chain h4 (fun i hi=>.inr (HA2.out i hi))⟩):P:=h
theorem close_any (w:World)(F:Nat->Prop)(gs:Nat)(q:Mq)(runes:Bool)(caps:Int)(N:Nat)(I:List Itm)(bg:Bool)(hS:StrS w F gs q runes caps N I bg)(hN:N<=60) :
 Calls Tryz.prog 19 #[.pointer (some ⟨gs,0,none⟩)] w (RetClo F q N I bg w):=by
 obtain⟨⟨RA,rc,mark,rd,fv,sts,rs,hst,hf,hpm,hmk,hrd,hsl⟩,gk,rn,ok,cd,lt,few,bgI,ky⟩:=id hS;have s5:w.cell? ⟨gs,5,none⟩=some (.bool false):=hst.st.cell 5;have s4:w.cell? ⟨gs,4,none⟩=some (.bool bg):=hst.st.cell 4;have HS:=lh hS;have HST:=lh hst;have HF:=lh hf;have HPM:=lh hpm;clear hS hst hf hpm hmk hrd hsl ok cd;cases bg
 ·obtain⟨hI0,hN0⟩:=bgI rfl;have hrs:rs=[]:=by
   have h1:=runs_len HST.out.gt;have h2:=HPM.out.length_eq;rw[hI0] at h2;exact List.length_eq_zero_iff.1 (by simp only[List.length_nil] at h2;omega)
  subst hrs;obtain⟨zf,hzf,hfv,hzl⟩:=HF.out;have m5:w.cell? ⟨q.gm,5,none⟩=some (.pointer (some ⟨zf.b,0,none⟩)):=by rw[<-show fv=.pointer (some ⟨zf.b,0,none⟩) from hfv];exact HST.out.ma.blk.cell 5
  have z1:w.cell? ⟨zf.b,1,none⟩=some (.bool (doneG (insL q.cd.hs) (stateG (insL q.cd.hs) [0]))):=by rw[<-hzl];exact(HST.out.ma.sq.at_ zf hzf).blk.cell 1
  obtain⟨dn,hdn⟩:∃dn,Hid (dn=doneG (insL q.cd.hs) (stateG (insL q.cd.hs) [0])):=⟨_,lh rfl⟩
  rw[<-hdn.out] at z1;have HST0:=lh (show Blk w gs 126 (strC ⟨q.gm,RA,0,rc,N,false,false⟩ 1) from HST.out.st);have HSTA:=lh (start_any gs ⟨q.gm,RA,0,rc,N,false,false⟩ 1 zf.b dn w HST0.out m5 z1 (by show 0<=(N:Int)/\(N:Int)<=1000000;omega));clear hzf hfv hzl m5 z1;have g1:w.cell? ⟨gs,1,none⟩=some (.slice RA 0 rc):=HST0.out.cell 1;go_enter Tryz.func19,Tryz.ntmps19
  go_upto_region 4 with fail
  have KEY:=fun(w1:World) (x1:Ext w w1)=>And.intro (x1.cell g1) ((HST0.out.ext x1).frz 1)
  go_upto_region 5 with(go_at_call 66;refine HSTA.out.mono ?_;rintro e w1 ⟨gb,rfl,hgb,hga,x1⟩;have hk1:=KEY _ (x1.trans (Ext.alloc w1 (.cells #[.pointer (some ⟨zf.b,0,none⟩),.pointer (some ⟨gb,0,none⟩)] 140)));have hk2:=hk1.1;have hk3:=hk1.2)
  have X1:=x1.trans (Ext.alloc w1 (.cells #[.pointer (some ⟨zf.b,0,none⟩),.pointer (some ⟨gb,0,none⟩)] 140));have BL:=Blk.new w1 140 #[.pointer (some ⟨zf.b,0,none⟩),.pointer (some ⟨gb,0,none⟩)];have hga1:=hga.ext (Ext.alloc w1 (.cells #[.pointer (some ⟨zf.b,0,none⟩),.pointer (some ⟨gb,0,none⟩)] 140));obtain⟨gl,hgl⟩:∃g,g=w1.heap.size:=⟨_,rfl⟩;have hglw:w.heap.size<=gl:=by rw[hgl];exact x1.size
  rw[<-hgl] at BL ⊢;clear hgl hga hk1 hk2 hk3 KEY x1;generalize w1.alloc (.cells #[.pointer (some ⟨zf.b,0,none⟩),.pointer (some ⟨gb,0,none⟩)] 140)=wb at *;have stb:=HST0.out.ext X1;have st3:Blk (wb.setCell ⟨gs,1,none⟩ (.slice (some ⟨gl,0,none⟩) 1 1)) gs 126 (strC ⟨q.gm,some ⟨gl,0,none⟩,1,1,N,false,false⟩ 1):=by have:=stb.set 1 (.slice (some ⟨gl,0,none⟩) 1 1);simpa[strC] using this
  have ngs:gl≠gs:=by have:=HST.out.st.lt;omega
  have BL3:=BL.far (p:=⟨gs,1,none⟩) ngs (.slice (some ⟨gl,0,none⟩) 1 1);have k3:KpP (·=gs) wb (wb.setCell ⟨gs,1,none⟩ (.slice (some ⟨gl,0,none⟩) 1 1)):=KpP.set (p:=(·=gs)) (x:=⟨gs,1,none⟩) (KpP.refl _ _) (.inl rfl) _;have ga3:=Fo.At.kpT k3 (fun b hb cs=>by
   have hb':b=gs:=hb;subst hb';exact⟨fun e=>blk_blk e stb de rfl,fun e=>blk_blk e stb de rfl⟩) hga1
  have kw3:KpP F w (wb.setCell ⟨gs,1,none⟩ (.slice (some ⟨gl,0,none⟩) 1 1)):=KpP.trans (KpP.of_ext X1) (k3.mono (fun i hi=>by rw[show i=gs from hi];exact HST.out.fg));clear stb BL hga1 k3 X1 ngs;generalize wb.setCell ⟨gs,1,none⟩ (.slice (some ⟨gl,0,none⟩) 1 1)=w3 at *
  go_upto_region 6 with fail
  have BG:=Blk.new w3 37 #[.slice none 0 0];have EG:=Ext.alloc w3 (.cells #[.slice none 0 0] 37);obtain⟨gr,hgr⟩:∃g,g=w3.heap.size:=⟨_,rfl⟩;have HGR:=lh (show w.heap.size<=gr by rw[hgr];exact kw3.size)
  rw[<-hgr] at BG ⊢;clear hgr;generalize w3.alloc (.cells #[.slice none 0 0] 37)=w2 at *;have HFG:=lh HST.out.fg;obtain⟨rs1,hrs1⟩:∃rs1:List Ru,rs1=[⟨zf.b,stateG (insL q.cd.hs) [0],gb,N,if dn=true then(N:Int) else -1,none,0,.nil⟩]:=⟨_,rfl⟩;have hits:itsR rs1=[startI (insL q.cd.hs) N]:=by
   have hrf:(⟨zf.b,stateG (insL q.cd.hs) [0],gb,N,if dn=true then(N:Int) else -1,none,0,.nil⟩:Ru).f=grp gb (N:Int) (if dn=true then(N:Int) else -1) none 0 .nil:=rfl;rw[hrs1,itsR_cons];unfold Ru.its;rw[hrf,grp_pos,if_pos (by omega:(0:Int)<=N),if_pos (by omega:(-1:Int)<0),hdn.out]
   rfl
  have HLN:=lh (show(itsR rs1).length<=61/\-1<=(1:Int)/\(1:Int)<=61 by rw[hits];simp);have HCI:Hid (ClI w F gs gr ⟨q.gm,some ⟨gl,0,none⟩,rs1.length,1,N,false,false⟩ 1 rs1 w2 0):=lh (by
   have hl1:rs1.length=1:=by rw[hrs1];rfl
   refine⟨?_,?_,fun r hr=>?_,⟨none,0,⟨BG,OwnS.nil _ _ _ _⟩,by simp⟩,KpP.trans kw3 (KpP.of_ext EG)⟩
   ·rw[hl1];simpa[itsR] using st3.ext EG
   ·have:=OwnS.of_blk (base:=0) (size:=2) (n:=1) (c:=1) (BL3.ext EG) (Nat.zero_le _) rfl (Nat.le_refl _) um;rw[hl1,hrs1];exact this
   ·rw[hrs1] at hr;rw[List.mem_singleton.1 hr];exact ga3.ext EG)
  have HRF:=lh (show(resOf (itsR rs1)).Perm (resOf (clIt (insL q.cd.hs) N I false)) by unfold clIt;simp only[Bool.false_eq_true,if_false];rw[hits]);have HPO:=lh (show ∀s∈resOf (itsR rs1),prOk s by
   intro s hs;rw[hits] at hs;obtain⟨i,hi,he⟩:=List.mem_filterMap.1 hs;have h2:=List.mem_singleton.1 hi
   split at he
   ·injection he with he
    subst he;unfold prOk;rw[h2];simp only[startI];omega
   ·cases he)
  clear s5 s4 BG EG st3 BL3 ga3 kw3 hits hrs1 g1;obtain⟨RAx,hRAx⟩:∃RAx,Hid (RAx=some (⟨gl,0,none⟩:Addr)):=⟨_,lh rfl⟩
  rw[<-hRAx.out] at HCI;have hcap:=OwnS.caps HCI.out.ow;have s1:w2.cell? ⟨gs,1,none⟩=some (.slice RAx (rs1).length 1):=HCI.out.st.cell 1
  go_upto_region 7 with fail
  clear s1
  go_loopw [27] (fun v wr=>∃k:Nat,v=.int .i64 k/\k<=(rs1).length/\Hid (ClI w F gs gr ⟨q.gm,RAx,(rs1).length,1,N,false,false⟩ (1:Int) (rs1) wr k)) (fun v _=>(rs1).length-(intOf v).toNat)
  case atStart=>exact⟨0,rfl,om,HCI⟩
  case round=>
   obtain⟨k,rfl,hk,HC⟩:=hrel;by_cases hlt:k<(rs1).length
   ·have hkI:(k:Int)<(rs1).length:=om;obtain⟨A2,c2,hr2,hA2⟩:=HC.out.res;obtain⟨lb,lo,hLA,hlc⟩:=OwnS.cells HC.out.ow (by intro e;have:=flatR_len (rs1);rw[e] at this;simp at this;omega);have hfg:=flatR_get (rs:=rs1) (i:=k) (r:=(rs1)[k]) (by simp[hlt]);obtain⟨hf1,hf2⟩:=List.getElem?_eq_some_iff.1 hfg.1;obtain⟨hf3,hf4⟩:=List.getElem?_eq_some_iff.1 hfg.2;have d0:=hlc (k*2) hf1;have d1:=hlc (k*2+1) hf3;simp only[hf2] at d0;simp only[hf4] at d1;replace d1:wr.cell? ⟨lb,lo+k*2+1,none⟩=some (.pointer (some ⟨(rs1)[k].b,0,none⟩)):=d1;have ER:=Ext.alloc wr (.cells #[.pointer (some ⟨(rs1)[k].sb,0,none⟩),.pointer (some ⟨(rs1)[k].b,0,none⟩)] 140);have hCE:=HC.out.ext ER;have hmem:=List.getElem_mem hlt;have hil:=its_len hmem;have hRl:(resOf (itsR ((rs1).take k))).length<=1000/\(itsR ((rs1).take k)).length<=1000:=by
     have h1:(itsR ((rs1).take k)).length<=(itsR (rs1)).length:=by
      have e:rs1=(rs1).take k++(rs1).drop k:=(List.take_append_drop k _).symm;have h2:=congrArg (fun l=>(itsR l).length) e;simp only[itsR_app,List.length_append] at h2;omega
     have h2:(resOf (itsR ((rs1).take k))).length<=(itsR ((rs1).take k)).length:=List.length_filterMap_le _ _;have h3:=HLN.out;omega
    have HLN2:=HLN.out;have hpl:((grp (rs1)[k].b (rs1)[k].p (rs1)[k].e (rs1)[k].A (rs1)[k].c (rs1)[k].k).pos (-1)).length<=1000000:=by
     have e:grp (rs1)[k].b (rs1)[k].p (rs1)[k].e (rs1)[k].A (rs1)[k].c (rs1)[k].k=(rs1)[k].f:=rfl;rw[e];omega
    have HRES:=lh (results_any gs gr (rs1)[k].sb (rs1)[k].b (rs1)[k].p (rs1)[k].e (rs1)[k].A (rs1)[k].c (rs1)[k].k ⟨q.gm,RAx,(rs1).length,1,N,false,false⟩ ((1:Int)-(itsR ((rs1).take k)).length) A2 c2 _ _ (hCE.gt _ hmem) hCE.st ⟨hr2.1.ext ER,OwnS.ext hr2.2 ER⟩ om hpl om);have HNX:=lh (fun(w5:World) (ho:RsO _ w5 gs gr ⟨q.gm,RAx,(rs1).length,1,N,false,false⟩ ((1:Int)-(itsR ((rs1).take k)).length) A2 (resOf (itsR ((rs1).take k))) ((rs1)[k].f.pos (-1)))=>ClI.next hCE hlt ⟨hr2.1.ext ER,OwnS.ext hr2.2 ER⟩ hA2 HFG.out HGR.out ho);have HLA:=lh hLA;generalize (rs1)[k]=r at *;exact UOz1
   ·have hkI:¬(k:Int)<(rs1).length:=om;obtain rfl:k=(rs1).length:=om;obtain⟨A2,c2,hr2,hA2⟩:=HC.out.res;rw[List.take_length] at hr2;have hst:=HC.out.st;rw[List.take_length] at hst;have s1:wr.cell? ⟨gs,1,none⟩=some (.slice RAx (rs1).length 1):=hst.cell 1;have f1:=hst.frz 1
    go_upto_region 11 with fail
    have k3:KpP (·=gs) wr ((wr.setCell ⟨gs,1,none⟩ (.slice none 0 0)).setCell ⟨gs,5,none⟩ (.bool true)):=KpP.set (p:=(·=gs)) (x:=⟨gs,5,none⟩) (KpP.set (p:=(·=gs)) (x:=⟨gs,1,none⟩) (KpP.refl _ _) (.inl rfl) _) (.inl rfl) _;have hr3:RsAt ((wr.setCell ⟨gs,1,none⟩ (.slice none 0 0)).setCell ⟨gs,5,none⟩ (.bool true)) gr A2 c2 (resOf (itsR (rs1))):=⟨k3.blk hr2.1 (blk_blk hr2.1 hst de),OwnS.kp hr2.2 k3 (fun b hb e=>own_blk hr2.2 hst de (by rw[hb];exact congrArg some e))⟩;have hk3:KpP F w ((wr.setCell ⟨gs,1,none⟩ (.slice none 0 0)).setCell ⟨gs,5,none⟩ (.bool true)):=HC.out.kp.trans (k3.mono (fun i hi=>by rw[show i=gs from hi];exact HFG.out));have c5:wr.cell? ⟨gs,5,none⟩=some (.bool false):=hst.cell 5;have f5:=hst.frz 5;have HR3:=lh (And.intro hr3 hk3);clear hr2 k3 hr3 hk3 hst
    go_upto_region 12 with fail
    clear s1 f1 c5 f5;generalize (wr.setCell ⟨gs,1,none⟩ (.slice none 0 0)).setCell ⟨gs,5,none⟩ (.bool true)=w7 at *;have hRl:(resOf (itsR (rs1))).length<=1000000:=by
     have h2:(resOf (itsR (rs1))).length<=(itsR (rs1)).length:=List.length_filterMap_le _ _;have h3:=HLN.out;omega
    have HSO:=lh (sorted_any 0 c2 A2 _ HPO.out w7 HR3.out.1.2 hRl);have gr0:w7.cell? ⟨gr,0,none⟩=some (.slice A2 (resOf (itsR (rs1))).length c2):=HR3.out.1.1.cell 0;exact UOz2
 ·go_enter Tryz.func19,Tryz.ntmps19
  go_upto_region 6 with fail
  have BG:=Blk.new w 37 #[.slice none 0 0];have EG:=Ext.alloc w (.cells #[.slice none 0 0] 37);obtain⟨gr,hgr⟩:∃g,g=w.heap.size:=⟨_,rfl⟩;have HGR:=lh (show w.heap.size<=gr by omega)
  rw[<-hgr] at BG ⊢;clear hgr;generalize w.alloc (.cells #[.slice none 0 0] 37)=w2 at *;have HFG:=lh HST.out.fg;have HLN:=lh (show(itsR rs).length<=61/\-1<=(I.length:Int)/\(I.length:Int)<=61 by
   have:=HPM.out.length_eq;omega)
  have HCI:Hid (ClI w F gs gr ⟨q.gm,RA,rs.length,rc,N,true,false⟩ I.length rs w2 0):=lh (by
   have h1:=(HST.out.extT EG)
   first|rw[if_pos rfl] at h1|rw[if_pos trivial] at h1
   refine⟨?_,h1.ow,h1.gt,⟨none,0,⟨BG,OwnS.nil _ _ _ _⟩,by simp⟩,KpP.of_ext EG⟩;have:=h1.st
   simpa[itsR] using this)
  have HRF:=lh (show(resOf (itsR rs)).Perm (resOf (clIt (insL q.cd.hs) N I true)) by unfold clIt;simp only[if_true];exact resOf_perm HPM.out);have HPO:=lh (show ∀s∈resOf (itsR rs),prOk s by
   intro s hs;obtain⟨i,hi,he⟩:=List.mem_filterMap.1 hs;have h2:=ky.2 i.p (List.mem_map.2 ⟨i,HPM.out.mem_iff.1 hi,rfl⟩)
   split at he
   ·injection he with he
    subst he;unfold prOk
    simp only
    omega
   ·cases he)
  clear s5 s4 BG EG;have hcap:=OwnS.caps HCI.out.ow;have s1:w2.cell? ⟨gs,1,none⟩=some (.slice RA (rs).length rc):=HCI.out.st.cell 1
  go_upto_region 7 with fail
  clear s1
  go_loopw [27] (fun v wr=>∃k:Nat,v=.int .i64 k/\k<=(rs).length/\Hid (ClI w F gs gr ⟨q.gm,RA,(rs).length,rc,N,true,false⟩ (I.length:Int) (rs) wr k)) (fun v _=>(rs).length-(intOf v).toNat)
  case atStart=>exact⟨0,rfl,om,HCI⟩
  case round=>
   obtain⟨k,rfl,hk,HC⟩:=hrel;by_cases hlt:k<(rs).length
   ·have hkI:(k:Int)<(rs).length:=om;obtain⟨A2,c2,hr2,hA2⟩:=HC.out.res;obtain⟨lb,lo,hLA,hlc⟩:=OwnS.cells HC.out.ow (by intro e;have:=flatR_len (rs);rw[e] at this;simp at this;omega);have hfg:=flatR_get (rs:=rs) (i:=k) (r:=(rs)[k]) (by simp[hlt]);obtain⟨hf1,hf2⟩:=List.getElem?_eq_some_iff.1 hfg.1;obtain⟨hf3,hf4⟩:=List.getElem?_eq_some_iff.1 hfg.2;have d0:=hlc (k*2) hf1;have d1:=hlc (k*2+1) hf3;simp only[hf2] at d0;simp only[hf4] at d1;replace d1:wr.cell? ⟨lb,lo+k*2+1,none⟩=some (.pointer (some ⟨(rs)[k].b,0,none⟩)):=d1;have ER:=Ext.alloc wr (.cells #[.pointer (some ⟨(rs)[k].sb,0,none⟩),.pointer (some ⟨(rs)[k].b,0,none⟩)] 140);have hCE:=HC.out.ext ER;have hmem:=List.getElem_mem hlt;have hil:=its_len hmem;have hRl:(resOf (itsR ((rs).take k))).length<=1000/\(itsR ((rs).take k)).length<=1000:=by
     have h1:(itsR ((rs).take k)).length<=(itsR (rs)).length:=by
      have e:rs=(rs).take k++(rs).drop k:=(List.take_append_drop k _).symm;have h2:=congrArg (fun l=>(itsR l).length) e;simp only[itsR_app,List.length_append] at h2;omega
     have h2:(resOf (itsR ((rs).take k))).length<=(itsR ((rs).take k)).length:=List.length_filterMap_le _ _;have h3:=HLN.out;omega
    have HLN2:=HLN.out;have hpl:((grp (rs)[k].b (rs)[k].p (rs)[k].e (rs)[k].A (rs)[k].c (rs)[k].k).pos (-1)).length<=1000000:=by
     have e:grp (rs)[k].b (rs)[k].p (rs)[k].e (rs)[k].A (rs)[k].c (rs)[k].k=(rs)[k].f:=rfl;rw[e];omega
    have HRES:=lh (results_any gs gr (rs)[k].sb (rs)[k].b (rs)[k].p (rs)[k].e (rs)[k].A (rs)[k].c (rs)[k].k ⟨q.gm,RA,(rs).length,rc,N,true,false⟩ ((I.length:Int)-(itsR ((rs).take k)).length) A2 c2 _ _ (hCE.gt _ hmem) hCE.st ⟨hr2.1.ext ER,OwnS.ext hr2.2 ER⟩ om hpl om);have HNX:=lh (fun(w5:World) (ho:RsO _ w5 gs gr ⟨q.gm,RA,(rs).length,rc,N,true,false⟩ ((I.length:Int)-(itsR ((rs).take k)).length) A2 (resOf (itsR ((rs).take k))) ((rs)[k].f.pos (-1)))=>ClI.next hCE hlt ⟨hr2.1.ext ER,OwnS.ext hr2.2 ER⟩ hA2 HFG.out HGR.out ho);have HLA:=lh hLA;generalize (rs)[k]=r at *;exact UOz1
   ·have hkI:¬(k:Int)<(rs).length:=om;obtain rfl:k=(rs).length:=om;obtain⟨A2,c2,hr2,hA2⟩:=HC.out.res;rw[List.take_length] at hr2;have hst:=HC.out.st;rw[List.take_length] at hst;have s1:wr.cell? ⟨gs,1,none⟩=some (.slice RA (rs).length rc):=hst.cell 1;have f1:=hst.frz 1
    go_upto_region 11 with fail
    have k3:KpP (·=gs) wr ((wr.setCell ⟨gs,1,none⟩ (.slice none 0 0)).setCell ⟨gs,5,none⟩ (.bool true)):=KpP.set (p:=(·=gs)) (x:=⟨gs,5,none⟩) (KpP.set (p:=(·=gs)) (x:=⟨gs,1,none⟩) (KpP.refl _ _) (.inl rfl) _) (.inl rfl) _;have hr3:RsAt ((wr.setCell ⟨gs,1,none⟩ (.slice none 0 0)).setCell ⟨gs,5,none⟩ (.bool true)) gr A2 c2 (resOf (itsR (rs))):=⟨k3.blk hr2.1 (blk_blk hr2.1 hst de),OwnS.kp hr2.2 k3 (fun b hb e=>own_blk hr2.2 hst de (by rw[hb];exact congrArg some e))⟩;have hk3:KpP F w ((wr.setCell ⟨gs,1,none⟩ (.slice none 0 0)).setCell ⟨gs,5,none⟩ (.bool true)):=HC.out.kp.trans (k3.mono (fun i hi=>by rw[show i=gs from hi];exact HFG.out));have c5:wr.cell? ⟨gs,5,none⟩=some (.bool false):=hst.cell 5;have f5:=hst.frz 5;have HR3:=lh (And.intro hr3 hk3);clear hr2 k3 hr3 hk3 hst
    go_upto_region 12 with fail
    clear s1 f1 c5 f5;generalize (wr.setCell ⟨gs,1,none⟩ (.slice none 0 0)).setCell ⟨gs,5,none⟩ (.bool true)=w7 at *;have hRl:(resOf (itsR (rs))).length<=1000000:=by
     have h2:(resOf (itsR (rs))).length<=(itsR (rs)).length:=List.length_filterMap_le _ _;have h3:=HLN.out;omega
    have HSO:=lh (sorted_any 0 c2 A2 _ HPO.out w7 HR3.out.1.2 hRl);have gr0:w7.cell? ⟨gr,0,none⟩=some (.slice A2 (resOf (itsR (rs))).length c2):=HR3.out.1.1.cell 0;exact UOz2
theorem open_any (w:World)(F:Nat->Prop)(gs:Nat)(q:Mq)(runes:Bool)(caps:Int)(N:Nat)(I:List Itm)(bg:Bool)(hS:StrS w F gs q runes caps N I bg) :
 Calls Tryz.prog 18 #[.pointer (some ⟨gs,0,none⟩)] w (RetV (.int .i64 (if bg=true then(I.length:Int) else 1)) w):=by
 obtain⟨⟨RA,rc,mark,rd,fv,sts,rs,hst,_⟩,_⟩:=hS;have s5:w.cell? ⟨gs,5,none⟩=some (.bool false):=hst.st.cell 5;have s3:=hst.st.cell 3;generalize (if bg=true then(I.length:Int) else 1)=op at *;replace s3:w.cell? ⟨gs,3,none⟩=some (.int .i64 op):=s3;clear hst;go_enter Tryz.func18,Tryz.ntmps18
 go_wp2_with fail
 go_ret
 exact⟨rfl,Ext.rfl' _⟩
end
section
open Go.RowKit
theorem resOf_mem {I:List Itm}{r:Int×Int}(h:r∈resOf I):∃i∈I,r=(i.p,i.e):=by
 unfold resOf at h;obtain⟨i,hi,he⟩:=List.mem_filterMap.1 h;by_cases h0:0<=i.e
 ·rw[if_pos h0] at he;injection he with he
  exact⟨i,hi,he.symm⟩
 ·rw[if_neg h0] at he;cases he
theorem startI_e {G:List Ins}{N M:Int}(h0 : -1<=N)(h:N<=M) : -1<=(startI G N).e/\(startI G N).e<=M:=by
 unfold startI
 simp only
 split<;>omega
theorem stepI_e {G:List Ins}{N x M:Int}{I:List Itm}(hI:∀i∈I,-1<=i.e/\i.e<=M)(h0 : -1<=N)(h:N+1<=M):∀i∈stepI G N x I,-1<=i.e/\i.e<=M:=fun i hi=>by
 unfold stepI at hi;rcases List.mem_append.1 hi with hi|hi
 ·obtain⟨j,hj,rfl⟩:=List.mem_map.1 hi;have:=hI j hj;unfold movI
  simp only
  split<;>omega
 ·rw[List.mem_singleton.1 hi];exact startI_e om h
theorem runI_e {G:List Ins}{D:St->Bool}{M:Int}:∀(t:List Int) (N:Int) (I:List Itm),(∀i∈I,-1<=i.e/\i.e<=M)->-1<=N->N+t.length<=M->(∀i∈(runI G D t N I).1,-1<=i.e/\i.e<=M)/\∀r∈(runI G D t N I).2,-1<=r.2/\r.2<=M
 | [],N,I,hI,h0,h=>⟨hI,by simp[runI]⟩
 | x::t,N,I,hI,h0,h=>by
  have hl:((x::t).length:Int)=(t.length:Int)+1:=by simp
  have h1:=stepI_e (G:=G) (x:=x) hI h0 om;have h2:=runI_e (G:=G) (D:=D) (M:=M) t (N+1) (openI D (stepI G N x I)) (fun i hi=>h1 i ((List.mem_filter.1 hi).1)) om om;refine⟨h2.1,fun r hr=>?_⟩;rw[runI] at hr;rcases List.mem_append.1 hr with hr|hr
  ·obtain⟨i,hi,rfl⟩:=resOf_mem hr;exact h1 i ((List.mem_filter.1 hi).1)
  ·exact h2.2 r hr
theorem feed_e {G:List Ins}{D:St->Bool}{M:Int}(t:List Int)(h:(t.length:Int)<=M):(∀i∈(feedI G D t 0 [] false).1,-1<=i.e/\i.e<=M)/\∀r∈(feedI G D t 0 [] false).2,-1<=r.2/\r.2<=M:=by
 have hs:=startI_e (G:=G) (N:=0) (M:=M) om om;unfold feedI bgIt;simp only[Bool.false_eq_true,if_false];have h1:=runI_e (G:=G) (D:=D) (M:=M) t 0 (openI D [startI G 0]) (fun i hi=>by rw[List.mem_singleton.1 ((List.mem_filter.1 hi).1)];exact hs) om om;refine⟨h1.1,fun r hr=>?_⟩;rcases List.mem_append.1 hr with hr|hr
 ·obtain⟨i,hi,rfl⟩:=resOf_mem hr;rw[List.mem_singleton.1 ((List.mem_filter.1 hi).1)];exact hs
 ·exact h1.2 r hr
theorem feed_cut (G:List Ins)(D:St->Bool)(a b:List Int):feedI G D (a++b) 0 [] false=((feedI G D b a.length (feedI G D a 0 [] false).1 true).1,(feedI G D a 0 [] false).2++(feedI G D b a.length (feedI G D a 0 [] false).1 true).2):=by
 unfold feedI bgIt;simp only[Bool.false_eq_true,if_false,if_true,List.nil_append,runI_append];rw[show((0:Int)+(a.length:Int))=(a.length:Int) by omega,List.append_assoc]
end
end Go.Proofs.YtmgpefenkilffaaGreat
