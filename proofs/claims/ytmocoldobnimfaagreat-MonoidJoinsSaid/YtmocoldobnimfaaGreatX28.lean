/- Texts of this proof: Y14 Y15 Y16 Y17 P8. -/
import Derived.Test.YtmocoldobnimfaaGreatX24
import Derived.Test.YtmocoldobnimfaaGreatX26
set_option linter.all false
set_option maxRecDepth 100000
set_option maxHeartbeats 16000000
namespace Go.Proofs.YtmocoldobnimfaaGreat
section
open Go.RowKit
attribute [local go_sem ↓] Go.wp_at_zero Go.wp_at_succ
theorem textE1 (runes:Bool)(x:Int):textE runes [x]=if symV runes x=true then 0 else 5:=by
 unfold textE;rw[if_neg si]
 simp
theorem infoI1:(Tryz.prog.info? 3).map (fun i=>(i.zero,i.size,i.bytes))=some (some (.int .i64 0),1,8):=by kernel_rfl
def inhB (runes:Bool)(h:Hs):Bool:=(endsL h.l).any (symV runes)
def inhU (runes:Bool)(hs:List Hs)(i:Nat):List Hs:=(hs.take i).filter (inhB runes)
theorem inhU_succ {runes:Bool}{hs:List Hs}{i:Nat}(hi:i<hs.length):inhU runes hs (i+1)=if inhB runes hs[i]=true then inhU runes hs i++[hs[i]] else inhU runes hs i:=by
 unfold inhU;rw[List.take_add_one,List.getElem?_eq_getElem hi];simp only[Option.toList_some,List.filter_append];by_cases h:inhB runes hs[i]=true
 ·rw[if_pos h,List.filter_cons_of_pos h];rfl
 ·rw[if_neg h,List.filter_cons_of_neg h];simp
theorem inhU_len (runes:Bool)(hs:List Hs)(i:Nat):(inhU runes hs i).length≤i:=by
 unfold inhU;exact Nat.le_trans (List.length_filter_le _ _) (by rw[List.length_take];omega)
theorem inhU_mem {runes:Bool}{hs:List Hs}{i:Nat}{z:Hs}(h:z∈inhU runes hs i):z∈hs:=List.mem_of_mem_take (List.mem_filter.1 h).1
theorem inhU_all (runes:Bool)(hs:List Hs):(inhU runes hs hs.length).map (·.l)=keepC runes (hs.map (·.l)):=by
 unfold inhU keepC;rw[List.take_length,List.filter_map]
 rfl
theorem endsL_take {l:List Sp}{j:Nat}(hj:j<l.length):endsL (l.take (j+1))=endsL (l.take j)++[l[j].1,l[j].2]:=by
 unfold endsL;rw[List.take_add_one,List.getElem?_eq_getElem hj,List.flatMap_append]
 simp
theorem endsL_split {l:List Sp}{j:Nat}(hj:j<l.length):∃r,endsL l=endsL (l.take j)++l[j].1::l[j].2::r:=by
 refine⟨endsL (l.drop (j+1)),?_⟩;have h:l=l.take j++l[j]::l.drop (j+1):=by rw[←List.drop_eq_getElem_cons hj,List.take_append_drop]
 have h2:endsL (l.take j++l[j]::l.drop (j+1))=endsL (l.take j)++l[j].1::l[j].2::endsL (l.drop (j+1)):=by
  unfold endsL;rw[List.flatMap_append,List.flatMap_cons]
  rfl
 exact(congrArg endsL h).trans h2
theorem smp_lo {runes:Bool}{l:List Sp}{j:Nat}(hj:j<l.length)(h0:∀x∈endsL (l.take j),symV runes x=false)(h1:symV runes l[j].1=true):(endsL l).any (symV runes)=true∧smpP runes l=l[j].1:=by
 obtain⟨r,hr⟩:=endsL_split hj;have hf:(endsL (l.take j)).find? (symV runes)=none:=List.find?_eq_none.2 (fun x hx=>by rw[h0 x hx];simp);refine⟨by rw[hr];simp[h1],?_⟩;unfold smpP;rw[hr,List.find?_append,hf];simp[h1]
theorem smp_hi {runes:Bool}{l:List Sp}{j:Nat}(hj:j<l.length)(h0:∀x∈endsL (l.take j),symV runes x=false)(h1:symV runes l[j].1=false)(h2:symV runes l[j].2=true):(endsL l).any (symV runes)=true∧smpP runes l=l[j].2:=by
 obtain⟨r,hr⟩:=endsL_split hj;have hf:(endsL (l.take j)).find? (symV runes)=none:=List.find?_eq_none.2 (fun x hx=>by rw[h0 x hx];simp);refine⟨by rw[hr];simp[h2],?_⟩;unfold smpP;rw[hr,List.find?_append,hf];simp[h1,h2]
theorem smp_no {runes:Bool}{l:List Sp}{j:Nat}(hj:j<l.length)(h0:∀x∈endsL (l.take j),symV runes x=false)(h1:symV runes l[j].1=false)(h2:symV runes l[j].2=false):∀x∈endsL (l.take (j+1)),symV runes x=false:=by
 intro x hx;rw[endsL_take hj] at hx;rcases List.mem_append.1 hx with hx|hx
 ·exact h0 x hx
 ·simp only[List.mem_cons,List.not_mem_nil,or_false] at hx;rcases hx with rfl|rfl
  ·exact h1
  ·exact h2
theorem LLS.of_own {w:World}{base c:Nat}{O:Option Addr}{ks:List Hs}(h:OwnS w base 23 1 O ks.length c (flatH ks))(hs:∀z∈ks,SL w z.A z.c z.l):LLS w O c ks:=by
 have hc:=OwnS.caps h;refine⟨hc.1,by unfold maxLen;omega,hs,fun hn=>?_⟩;obtain⟨b,o,rfl,hcell⟩:=OwnS.cells h (by unfold flatH;simpa using hn);refine⟨b,o,rfl,fun i hi=>?_⟩;have:=hcell i (by simpa[flatH] using hi)
 simpa[flatH] using this
theorem smp_I64 {runes:Bool}{z:Hs}(h:inhB runes z=true)(hs:∀s∈z.l,S64 s):I64 (smpP runes z.l):=by
 obtain⟨s,hm,hx⟩:=List.mem_flatMap.1 (smpP_in h).1;have h2:=hs s hm;simp only[List.mem_cons,List.not_mem_nil,or_false] at hx;rcases hx with hx|hx<;>rw[hx]
 ·exact h2.1
 ·exact h2.2
theorem inhU_b {runes:Bool}{hs:List Hs}{i:Nat}{z:Hs}(h:z∈inhU runes hs i):inhB runes z=true:=(List.mem_filter.1 h).2
def RetInh (runes:Bool)(hs:List Hs)(w:World)(e:Ending)(w':World):Prop:=∃(O:Option Addr) (cO:Nat) (B:Option Addr) (d:Nat),
 e=.returned (.tuple #[.slice O (inhU runes hs hs.length).length cO,.slice B (inhU runes hs hs.length).length d])∧LLS w' O cO (inhU runes hs hs.length)∧IL w' B d ((inhU runes hs hs.length).map (fun z=>smpP runes z.l))∧Ext w w'
theorem Y14z1 {P:Prop} (h:P:=by
 go_roundw
 case rel=>exact⟨i+1,O9,cO9,B10,d10,by go_num,om,by rw[HU2.out,HKL.out],by rw[HU2.out,HKL.out],by rw[HU2.out];exact HO10,by rw[HU2.out,HX2.out,HKL.out];exact HB10,e10⟩
 case measure=>simp[intOf];omega):P:=h
theorem inhabited_any (A:Option Addr)(c:Nat)(hs:List Hs)(runes:Bool)(w:World)(hl:LLS w A c hs)(hn:hs.length≤100000) :
 Calls Tryz.prog 69 #[.slice A hs.length c,.bool runes] w (RetInh runes hs w):=by
 obtain⟨iI,jI0,jI1,jI2,jI3⟩:=info_parts infoI1;obtain⟨i0,hi0,hz0,hz1,hz2⟩:=info_parts infoSl;have hcap:=hl.len;have HL:=lh hl;have HTV:=fun(x:Int) (hx:I64 x) (W:World)=>lh (show Calls Tryz.prog 79 #[.slice (some ⟨W.heap.size,0,none⟩) 1 1,.bool runes] (W.alloc (.cells #[.int .i64 x] 3)) (RetV (.int .i64 (if symV runes x=true then 0 else 5)) (W.alloc (.cells #[.int .i64 x] 3))) by
  have h:=tvalid_any (some ⟨W.heap.size,0,none⟩) 1 [x] runes (W.alloc (.cells #[.int .i64 x] 3)) (IL.one (x:=x) (Blk.new _ _ _) hx);rw[textE1] at h;exact h)
 have HSU:=fun i (hi:i<hs.length)=>lh (inhU_succ (runes:=runes) hi);have HUL:=fun i=>inhU_len runes hs i;have HUM:=fun i z=>lh (inhU_mem (runes:=runes) (hs:=hs) (i:=i) (z:=z));clear hl;go_enter Tryz.func69,Tryz.ntmps69
 go_upto_region 4 with fail
 go_loopw [6,7,15] (fun v6 v7 v15 wr=>∃(i:Nat) (O:Option Addr) (cO:Nat) (B:Option Addr) (d:Nat),v15=.int .i64 i∧i≤hs.length∧v6=.slice O (inhU runes hs i).length cO∧v7=.slice B (inhU runes hs i).length d∧
  Hid (OwnS wr w.heap.size 23 1 O (inhU runes hs i).length cO (flatH (inhU runes hs i)))∧Hid (OwnS wr w.heap.size 3 1 B (inhU runes hs i).length d (((inhU runes hs i).map (fun z=>smpP runes z.l)).map (Value.int .i64)))∧Ext w wr) (fun _ _ v _=>hs.length-(intOf v).toNat)
 case atStart=>exact⟨0,none,0,none,0,rfl,om,rfl,rfl,lh (OwnS.nil _ _ _ _),lh (OwnS.nil _ _ _ _),Ext.rfl' _⟩
 case round=>
  obtain⟨i,O,cO,B,d,rfl,hi,rfl,rfl,HO,HB,x1⟩:=hrel;by_cases hlt:i<hs.length
  ·have hiI:(i:Int)<hs.length:=om;have HLr:=lh (HL.out.ext x1);obtain⟨rb,ro,hA,cr⟩:=HLr.out.get hlt;have hA':=hA;subst hA';have HSi:=lh (HLr.out.sl _ (List.getElem_mem hlt));have hsu:=HSU i hlt;have hul:=HUL i;obtain⟨h,hh⟩:∃h,h=hs[i]:=⟨_,rfl⟩
   rw[←hh] at cr HSi hsu;have HH:=lh hh;clear hh;obtain⟨A0,hA0⟩:∃A0,Hid (h.A=A0):=⟨_,lh rfl⟩;rw[hA0.out] at cr;replace HSi:=lh (show SL wr A0 h.c h.l from by have h9:=HSi.out;rw[hA0.out] at h9;exact h9);obtain⟨ks,hks⟩:∃ks,ks=inhU runes hs i:=⟨_,rfl⟩
   rw[←hks] at HO HB hsu hul ⊢;have HKS:=lh hks;clear hks;have hcl:=HSi.out.len;have HMX:Hid ((ks.map (fun z=>smpP runes z.l)).length=ks.length):=lh si;obtain⟨xs,hxs⟩:∃xs,Hid (ks.map (fun z=>smpP runes z.l)=xs):=⟨_,lh rfl⟩;rw[hxs.out] at HB HMX;obtain⟨w1,rfl⟩:∃w1,w1=wr:=⟨wr,rfl⟩
   go_upto_region 7 with fail
   clear cr
   go_loopw [6,7,21] (fun v6 v7 v21 wr=>∃j:Nat,v21=.int .i64 j∧j≤h.l.length∧v6=.slice O ks.length cO∧v7=.slice B ks.length d∧Hid (∀x∈endsL (h.l.take j),symV runes x=false)∧Ext w1 wr) (fun _ _ v _=>h.l.length-(intOf v).toNat)
   case atStart=>exact⟨0,rfl,om,rfl,rfl,lh (by simp[endsL]),Ext.rfl' _⟩
   case round=>
    obtain⟨j,rfl,hj,rfl,rfl,HN,y1⟩:=hrel;by_cases hlt2:j<h.l.length
    ·have hjI:(j:Int)<h.l.length:=om;have hwf:=(HSi.out.ext y1).wf hlt2;obtain⟨sb,so,rfl,g1,g2⟩:=(HSi.out.ext y1).get hlt2;have HLO:=fun h1=>lh (smp_lo (runes:=runes) hlt2 HN.out h1);have HHI:=fun h1 h2=>lh (smp_hi (runes:=runes) hlt2 HN.out h1 h2);have HNO:=fun h1 h2=>lh (smp_no (runes:=runes) hlt2 HN.out h1 h2);generalize h.l[j]=s at *;obtain⟨lo,hi2⟩:=s
     simp only at g1 g2 HLO HHI HNO
     have hlo:I64 lo:=hwf.1;have hhi:I64 hi2:=hwf.2;obtain⟨b1,xa⟩:=alloc1 wr 38 #[.int .i64 lo,.int .i64 hi2];obtain⟨p0,p1,_,_,pz⟩:=b1.c2;have y2:=y1.trans xa;by_cases hv:symV runes lo=true
     ·have HF:=HLO hv;have HU2:=lh (show inhU runes hs (i+1)=ks++[h] by rw[hsu.out,if_pos (show inhB runes h=true from HF.out.1)]);have HX2:=lh (show(ks++[h]).map (fun z=>smpP runes z.l)=xs++[lo] by rw[List.map_append,hxs.out];simp only[List.map_cons,List.map_nil];rw[HF.out.2]);have HKL:=lh (show(ks++[h]).length=ks.length+1 by simp);have HXL:=lh (show(xs++[lo]).length=xs.length+1 by simp);have hxl:xs.length≤i:=by rw[HMX.out];exact hul
      clear hsu HLO HHI HNO HF;have HT1:=fun(W:World)=>lh (show Calls Tryz.prog 79 #[.slice (some ⟨W.heap.size,0,none⟩) 1 1,.bool runes] (W.alloc (.cells #[.int .i64 lo] 3)) (RetV (.int .i64 0) (W.alloc (.cells #[.int .i64 lo] 3))) by
       have h9:=(HTV lo hlo W).out;rw[if_pos hv] at h9;exact h9)
      clear hv HTV
      go_upto_region 10 with fail
      generalize wr.alloc (.cells #[.int .i64 lo,.int .i64 hi2] 38)=wb at *
      go_upto_region 11 with fail
      refine(HT1 wb).out.mono ?_;rintro e w4 ⟨rfl,x4⟩
      go_upto_region 13 with fail
      refine(HT1 w4).out.mono ?_;rintro e w6 ⟨rfl,x6⟩
      go_upto_region 13 with fail
      have Y6:Ext wr w6:=((xa.trans (Ext.alloc _ _)).trans x4).trans ((Ext.alloc _ _).trans x6);have X8:=x1.trans (y1.trans Y6);have HO8:=lh (OwnS.ext HO.out (y1.trans Y6));have HB8:=lh (OwnS.ext HB.out (y1.trans Y6))
      go_upto_region 14 with((at_builtin;refine wpList_app _ rfl _ _ _ rfl w.heap.size 23 i0 (.slice none 0 0) 1 24 Tryz.underlying125 hi0 hz0 hz1 hz2 rfl om O ks.length cO (flatH ks) rfl (OwnS.ext HO8.out (Ext.alloc _ _)) _ 1 1 [.slice (some ⟨sb,so,none⟩) h.l.length h.c] rfl rfl (blk_cells (Blk.new _ _ _)) (by intro u hu;simp only[List.mem_cons,List.not_mem_nil,or_false] at hu;rcases hu with rfl;rfl) um om (X8.trans (Ext.alloc _ _)).size ?_;intro O9 cO9 w9 ho9 hg9 hat9))
      have e9:Ext w w9:=Ext.app (X8.trans (Ext.alloc _ _)) (OwnS.ext HO8.out (Ext.alloc _ _)) hg9;have HB9:=lh (OwnS.kp (OwnS.ext HB8.out (Ext.alloc _ _)) (KpP.of_grown hg9) (fun b hb he=>own_ne HO8.out HB8.out de he hb));have HO9:=lh (show OwnS w9 w.heap.size 23 1 O9 (ks++[h]).length cO9 (flatH (ks++[h])) by
       rw[HKL.out];unfold flatH at ho9 ⊢;rw[List.map_append,List.map_cons,List.map_nil,hA0.out];exact ho9)
      go_wp2_with ((at_builtin;refine wpList_app _ rfl _ _ _ rfl w.heap.size 3 iI (.int .i64 0) 1 8 Tryz.underlying22 jI0 jI1 jI2 jI3 rfl om B ks.length d (xs.map (Value.int .i64)) rfl (OwnS.ext HB9.out (Ext.alloc _ _)) _ 1 1 [.int .i64 lo] rfl rfl (blk_cells (Blk.new _ _ _)) (by intro u hu;simp only[List.mem_cons,List.not_mem_nil,or_false] at hu;rcases hu with rfl;rfl) um om (e9.trans (Ext.alloc _ _)).size ?_;intro B10 d10 w10 ho10 hg10 hat10))
      have e10:Ext w w10:=Ext.app (e9.trans (Ext.alloc _ _)) (OwnS.ext HB9.out (Ext.alloc _ _)) hg10;have HO10:=lh (OwnS.kp (OwnS.ext HO9.out (Ext.alloc _ _)) (KpP.of_grown hg10) (fun b hb he=>own_ne HB9.out HO9.out de he hb));have HB10:=lh (show OwnS w10 w.heap.size 3 1 B10 (ks.length+1) d10 ((xs++[lo]).map (Value.int .i64)) by
       rw[List.map_append];exact ho10)
      exact Y14z1
     ·have hv0:symV runes lo=false:=by simpa using hv
      have HT1:=fun(W:World)=>lh (show Calls Tryz.prog 79 #[.slice (some ⟨W.heap.size,0,none⟩) 1 1,.bool runes] (W.alloc (.cells #[.int .i64 lo] 3)) (RetV (.int .i64 5) (W.alloc (.cells #[.int .i64 lo] 3))) by
       have h9:=(HTV lo hlo W).out;rw[if_neg hv] at h9;exact h9)
      by_cases hv2:symV runes hi2=true
      ·have HF:=HHI hv0 hv2;have HU2:=lh (show inhU runes hs (i+1)=ks++[h] by rw[hsu.out,if_pos (show inhB runes h=true from HF.out.1)]);have HX2:=lh (show(ks++[h]).map (fun z=>smpP runes z.l)=xs++[hi2] by rw[List.map_append,hxs.out];simp only[List.map_cons,List.map_nil];rw[HF.out.2]);have HKL:=lh (show(ks++[h]).length=ks.length+1 by simp);have HXL:=lh (show(xs++[hi2]).length=xs.length+1 by simp);have hxl:xs.length≤i:=by rw[HMX.out];exact hul
       clear hsu HLO HHI HNO HF;have HT2:=fun(W:World)=>lh (show Calls Tryz.prog 79 #[.slice (some ⟨W.heap.size,0,none⟩) 1 1,.bool runes] (W.alloc (.cells #[.int .i64 hi2] 3)) (RetV (.int .i64 0) (W.alloc (.cells #[.int .i64 hi2] 3))) by
        have h9:=(HTV hi2 hhi W).out;rw[if_pos hv2] at h9;exact h9)
       clear hv hv0 hv2 HTV
       go_upto_region 10 with fail
       generalize wr.alloc (.cells #[.int .i64 lo,.int .i64 hi2] 38)=wb at *
       go_upto_region 11 with fail
       refine(HT1 wb).out.mono ?_;rintro e w4 ⟨rfl,x4⟩;have p1':=x4.cell ((Ext.alloc _ _).cell p1)
       go_upto_region 13 with fail
       refine(HT2 w4).out.mono ?_;rintro e w6 ⟨rfl,x6⟩
       go_upto_region 13 with fail
       have Y6:Ext wr w6:=((xa.trans (Ext.alloc _ _)).trans x4).trans ((Ext.alloc _ _).trans x6);have X8:=x1.trans (y1.trans Y6);have HO8:=lh (OwnS.ext HO.out (y1.trans Y6));have HB8:=lh (OwnS.ext HB.out (y1.trans Y6))
       go_upto_region 14 with((at_builtin;refine wpList_app _ rfl _ _ _ rfl w.heap.size 23 i0 (.slice none 0 0) 1 24 Tryz.underlying125 hi0 hz0 hz1 hz2 rfl om O ks.length cO (flatH ks) rfl (OwnS.ext HO8.out (Ext.alloc _ _)) _ 1 1 [.slice (some ⟨sb,so,none⟩) h.l.length h.c] rfl rfl (blk_cells (Blk.new _ _ _)) (by intro u hu;simp only[List.mem_cons,List.not_mem_nil,or_false] at hu;rcases hu with rfl;rfl) um om (X8.trans (Ext.alloc _ _)).size ?_;intro O9 cO9 w9 ho9 hg9 hat9))
       have e9:Ext w w9:=Ext.app (X8.trans (Ext.alloc _ _)) (OwnS.ext HO8.out (Ext.alloc _ _)) hg9;have HB9:=lh (OwnS.kp (OwnS.ext HB8.out (Ext.alloc _ _)) (KpP.of_grown hg9) (fun b hb he=>own_ne HO8.out HB8.out de he hb));have HO9:=lh (show OwnS w9 w.heap.size 23 1 O9 (ks++[h]).length cO9 (flatH (ks++[h])) by
        rw[HKL.out];unfold flatH at ho9 ⊢;rw[List.map_append,List.map_cons,List.map_nil,hA0.out];exact ho9)
       go_wp2_with ((at_builtin;refine wpList_app _ rfl _ _ _ rfl w.heap.size 3 iI (.int .i64 0) 1 8 Tryz.underlying22 jI0 jI1 jI2 jI3 rfl om B ks.length d (xs.map (Value.int .i64)) rfl (OwnS.ext HB9.out (Ext.alloc _ _)) _ 1 1 [.int .i64 hi2] rfl rfl (blk_cells (Blk.new _ _ _)) (by intro u hu;simp only[List.mem_cons,List.not_mem_nil,or_false] at hu;rcases hu with rfl;rfl) um om (e9.trans (Ext.alloc _ _)).size ?_;intro B10 d10 w10 ho10 hg10 hat10))
       have e10:Ext w w10:=Ext.app (e9.trans (Ext.alloc _ _)) (OwnS.ext HB9.out (Ext.alloc _ _)) hg10;have HO10:=lh (OwnS.kp (OwnS.ext HO9.out (Ext.alloc _ _)) (KpP.of_grown hg10) (fun b hb he=>own_ne HB9.out HO9.out de he hb));have HB10:=lh (show OwnS w10 w.heap.size 3 1 B10 (ks.length+1) d10 ((xs++[hi2]).map (Value.int .i64)) by
        rw[List.map_append];exact ho10)
       exact Y14z1
      ·have hv20:symV runes hi2=false:=by simpa using hv2
       have HN2:=HNO hv0 hv20;have HT2:=fun(W:World)=>lh (show Calls Tryz.prog 79 #[.slice (some ⟨W.heap.size,0,none⟩) 1 1,.bool runes] (W.alloc (.cells #[.int .i64 hi2] 3)) (RetV (.int .i64 5) (W.alloc (.cells #[.int .i64 hi2] 3))) by
        have h9:=(HTV hi2 hhi W).out;rw[if_neg hv2] at h9;exact h9)
       clear hv hv0 hv2 hv20 HLO HHI HNO
       go_upto_region 10 with fail
       generalize wr.alloc (.cells #[.int .i64 lo,.int .i64 hi2] 38)=wb at *
       go_upto_region 11 with fail
       refine(HT1 wb).out.mono ?_;rintro e w4 ⟨rfl,x4⟩;have p1':=x4.cell ((Ext.alloc _ _).cell p1)
       go_upto_region 13 with fail
       refine(HT2 w4).out.mono ?_;rintro e w6 ⟨rfl,x6⟩;have Y6:Ext wr w6:=((xa.trans (Ext.alloc _ _)).trans x4).trans ((Ext.alloc _ _).trans x6)
       go_wp2_with fail
       go_roundw
       case rel=>exact⟨j+1,by go_num,om,rfl,rfl,HN2,y1.trans Y6⟩
       case measure=>simp[intOf];omega
    ·have hjI:¬(j:Int)<h.l.length:=om;obtain rfl:j=h.l.length:=om;have hno:inhB runes h=false:=by
      have h9:=HN.out;rw[List.take_length] at h9;unfold inhB;rw[List.any_eq_false];intro x hx;rw[h9 x hx];simp
     have HU2:=lh (show inhU runes hs (i+1)=ks by rw[hsu.out,if_neg (by rw[hno];simp)]);clear hsu hno
     go_wp2_with fail
     go_roundw
     case rel=>exact⟨i+1,O,cO,B,d,by go_num,om,by rw[HU2.out],by rw[HU2.out],by rw[HU2.out];exact lh (OwnS.ext HO.out y1),by rw[HU2.out,hxs.out];exact lh (OwnS.ext HB.out y1),x1.trans y1⟩
     case measure=>simp[intOf];omega
  ·have hiI:¬(i:Int)<hs.length:=om;obtain rfl:i=hs.length:=om;have HLL:=lh (LLS.of_own HO.out (fun z hz=>(HL.out.ext x1).sl z ((HUM _ z).out hz)));have HII:=lh (show IL wr B d ((inhU runes hs hs.length).map (fun z=>smpP runes z.l)) from IL.of_own (base:=w.heap.size) (e:=3) (by unfold OwnI;rw[List.length_map];exact HB.out) (fun x hx=>by
    obtain⟨z,hz,rfl⟩:=List.mem_map.1 hx;exact smp_I64 (inhU_b hz) (HL.out.sl z (inhU_mem hz)).rng))
   clear HSU HUL HUM HO HB HTV
   go_wp2_with fail
   go_ret2
   exact⟨O,cO,B,d,rfl,HLL.out,HII.out,x1⟩
end
section
open Go.RowKit
theorem infoStr:(Tryz.prog.info? 211).map (fun i=>(i.zero,i.size,i.bytes))=some (some (.agg #[.int .i64 0,.int .i64 0]),2,16):=by kernel_rfl
def trOk (p:Sp):Prop:=0≤p.1∧p.1≤1114112
def OwnStr (w:World)(base:Nat)(A:Option Addr)(c:Nat)(l:List Sp):Prop:=OwnS w base 211 2 A l.length c (flatS l)
abbrev GStr:={ s:Sp // trOk s }
instance:Inhabited GStr:=⟨⟨(0,0),by unfold trOk;simp⟩⟩
def encStr (x:GStr):List Value:=[.int .i64 x.1.1,.int .i64 x.1.2]
def cmpStr (x y:GStr):Int:=x.1.1-y.1.1
theorem ltStr (x y:GStr):Go.Proofs.ltOf cmpStr x y=decide (x.1.1<y.1.1):=by
 unfold Go.Proofs.ltOf cmpStr;rw[Bool.eq_iff_iff];simp only[decide_eq_true_eq];omega
theorem swoStr:Go.Sort.SWO (Go.Proofs.ltOf cmpStr) where
 irrefl x:=by rw[ltStr];simp
 trans x y z h1 h2:=by rw[ltStr] at *;simp at *;omega
 ntrans x y z h1 h2:=by rw[ltStr] at *;simp at *;omega
def toStr:(l:List Sp)→(∀s∈l,trOk s)→List GStr
 | [],_=>[]
 | s::l,h=>⟨s,h s si⟩::toStr l (fun t ht=>h t (by simp[ht]))
theorem toStr_val:∀(l:List Sp) (h:∀s∈l,trOk s),(toStr l h).map (·.1)=l
 | [],_=>rfl
 | s::l,h=>by rw[toStr,List.map_cons,toStr_val l]
theorem flatK_getStr (d:List GStr)(j:Nat)(hj:j<d.length*2):(Go.Sort.flatK encStr 2 d.toArray)[j]! = (flatS (d.map (·.1)))[j]'(by rw[flatS_len,List.length_map];exact hj):=by
 rw[Go.Sort.get_flatK _ _ _ _ (by simpa using hj)];have hi:j / 2<d.length:=om;have hi':j / 2<(d.map (·.1)).length:=by simpa using hi
 obtain⟨g1,g2⟩:=flatS_get (d.map (·.1)) (j / 2) hi';obtain⟨l1,e1⟩:=List.getElem?_eq_some_iff.1 g1;obtain⟨l2,e2⟩:=List.getElem?_eq_some_iff.1 g2;have hd:d.toArray[j / 2]! = d[j / 2]:=by simp[hi]
 rw[hd];rcases Nat.mod_two_eq_zero_or_one j with h0|h1
 ·have e:j=j / 2*2:=om;rw[h0];have:(flatS (d.map (·.1)))[j]'(by rw[flatS_len,List.length_map];exact hj)=.int .i64 d[j / 2].1.1:=by
   have:=e1
   simp only[←e] at this;rw[this];simp
  rw[this];rfl
 ·have e:j=j / 2*2+1:=om;rw[h1];have:(flatS (d.map (·.1)))[j]'(by rw[flatS_len,List.length_map];exact hj)=.int .i64 d[j / 2].1.2:=by
   have:=e2
   simp only[←e] at this;rw[this];simp
  rw[this];rfl
theorem holdsStr {w:World}{base c g:Nat}{d:List GStr}(h:OwnStr w base (some ⟨g,0,none⟩) c (d.map (·.1))):Go.Sort.HoldsK encStr 2 w g 0 d.toArray:=by
 intro j hj;rw[Go.Sort.size_flatK] at hj;have hj2:j<d.length*2:=by simpa using hj
 have hfl:j<(flatS (d.map (·.1))).length:=by rw[flatS_len,List.length_map];exact hj2
 obtain⟨g',he,_,h1,h2,_,_⟩:=OwnS.store h hfl;injection he with he;injection he with e1 _ _
 subst e1;rw[Nat.zero_add,flatK_getStr d j hj2];exact⟨h1,h2⟩
theorem sortedStr {w:World}{base c g n:Nat}{d d':List GStr}{os:Array Obj}(h:OwnStr w base (some ⟨g,0,none⟩) c (d.map (·.1)))(hl:d'.length=d.length) :
 OwnStr (Go.Proofs.sortWorldK encStr 2 w g 0 n d'.toArray os) base (some ⟨g,0,none⟩) c (d'.map (·.1))∧KpP (·=g) w (Go.Proofs.sortWorldK encStr 2 w g 0 n d'.toArray os):=by
 rcases h.form with⟨h0,_⟩|⟨g',cur,he,hg,hh,hnc,hcm,hcs,ht⟩
 ·cases h0
 ·injection he with he;injection he with e1 _ _
  subst e1;have hlt:g<w.heap.size:=(Array.getElem?_eq_some_iff.1 hh).1;have hk:KpP (·=g) w (Go.Proofs.sortWorldK encStr 2 w g 0 n d'.toArray os):=by
   refine⟨rfl,rfl,rfl,?_,fun k hk hn=>?_⟩
   ·show w.heap.size≤(Array.size (_++os))
    simp[Go.Sort.putRowK,Go.Sort.putRow,Go.Sort.mapBlock,Go.Sort.ahead]
   ·show(_++os)[k]? = _
    have hne:¬g=k:=fun e=>hn e.symm;rw[Array.getElem?_append_left (by simp[Go.Sort.putRowK,Go.Sort.putRow,Go.Sort.mapBlock,Go.Sort.ahead];exact hk)];simp[Go.Sort.putRowK,Go.Sort.putRow,Go.Sort.mapBlock,Go.Sort.ahead,Array.getElem?_modify,hne]
  refine⟨?_,hk⟩;have hb:Blk (Go.Proofs.sortWorldK encStr 2 w g 0 n d'.toArray os) g 211 (Go.Sort.putCells id 0 (Go.Sort.flatK encStr 2 d'.toArray) cur):=by
   show(_++os)[g]? = _
   rw[Array.getElem?_append_left (by simp[Go.Sort.putRowK,Go.Sort.putRow,Go.Sort.mapBlock,Go.Sort.ahead];exact hlt)];simp[Go.Sort.putRowK,Go.Sort.putRow,Go.Sort.mapBlock,Go.Sort.ahead,Array.getElem?_modify,hh,Go.Sort.onCells]
  have:=OwnS.of_blk (n:=(d'.map (·.1)).length) (c:=c) (size:=2) hb hg (by simp[Go.Sort.putCells,hcs]) (by rw[List.length_map] at hnc ⊢;omega) hcm;have e:(Go.Sort.putCells id 0 (Go.Sort.flatK encStr 2 d'.toArray) cur).toList.take ((d'.map (·.1)).length*2)=flatS (d'.map (·.1)):=by
   have hsz:d'.length*2≤cur.size:=by rw[hcs];rw[List.length_map] at hnc;omega
   refine List.ext_getElem ?_ (fun j h1 h2=>?_)
   ·rw[List.length_take,flatS_len];simp[Go.Sort.putCells];omega
   ·have hj:j<d'.length*2:=by rw[flatS_len,List.length_map] at h2;exact h2
    rw[List.getElem_take];have hjc:j<cur.size:=om;have:(Go.Sort.putCells id 0 (Go.Sort.flatK encStr 2 d'.toArray) cur)[j]'(by simpa[Go.Sort.putCells] using hjc)=(Go.Sort.flatK encStr 2 d'.toArray)[j]!:=by
     simp only[Go.Sort.putCells,Array.getElem_mapIdx,Go.Sort.size_flatK];rw[if_pos ⟨Nat.zero_le _,by simpa using hj⟩]
     rfl
    rw[Array.getElem_toList,this,flatK_getStr d' j hj]
  rw[e] at this;exact this
theorem cmpStr_any (x y:GStr)(W:World):Calls Tryz.prog 118 #[.agg #[.int .i64 x.1.1,.int .i64 x.1.2],.agg #[.int .i64 y.1.1,.int .i64 y.1.2]] W (fun e w'=>e=.returned (.int .i64 (cmpStr x y))∧∃q os',w'=Go.Sort.grow (W.drewN q) os'):=by
 obtain⟨⟨x1,x2⟩,hx⟩:=x;obtain⟨⟨y1,y2⟩,hy⟩:=y;have hx':0≤x1∧x1≤1114112:=hx;have hy':0≤y1∧y1≤1114112:=hy;have hw:IntKind.i64.wrap (x1-y1)=x1-y1:=wj;unfold cmpStr
 simp only
 go_enter Tryz.func118,Tryz.ntmps118
 go_wp2
 go_ret
 exact⟨by rw[←hw];rfl,0,_,by rw[Go.Sort.alloc_eq_grow,Go.Sort.alloc_eq_grow,Go.Sort.grow_grow];rfl⟩
theorem sortStr_any (base g c:Nat)(l:List Sp)(hg:∀s∈l,trOk s)(w:World)(hl:OwnStr w base (some ⟨g,0,none⟩) c l)(hlen:l.length≤1000000) :
 Calls Tryz.prog 117 #[.slice (some ⟨g,0,none⟩) l.length c,.func (.func 118) #[] #[]] w (fun e w'=>e=.returned (.tuple #[])∧∃m:List Sp,l.Perm m∧m.Pairwise (fun s t=>s.1≤t.1)∧m.length=l.length∧OwnStr w' base (some ⟨g,0,none⟩) c m∧KpP (·=g) w w'):=by
 obtain⟨d,hd⟩:∃d:List GStr,d.map (·.1)=l:=⟨toStr l hg,toStr_val l hg⟩;subst hd;have eg:∀args w,(callFunc 118 args).run Tryz.prog w=.ok (.enter 118 args) w:=enters_of Tryz.func118 kr rfl;have hcmp:Go.Proofs.CmpLays Tryz.prog 118 #[] encStr 2 cmpStr g 0 d.toArray.size w:=fun _ _ _ _ x y=>cmpStr_any x y _;have hcon:=AnyQ.slices_SortFunc Tryz.sortStretch 2 Tryz.isAgg211 Tryz.sizeOf211 encStr (fun _=>rfl) (fun x v hv=>by simp[encStr] at hv;rcases hv with rfl|rfl<;>rfl) cmpStr swoStr 118 #[] g 0 c d.toArray w eg hcmp (holdsStr hl) ((OwnS.blt hl rfl).1) (by rw[List.length_map] at hlen;simp;omega);change Calls Tryz.prog 117 _ _ _ at hcon;have hsz:d.toArray.size=(d.map (·.1)).length:=by simp
 rw[hsz] at hcon;refine hcon.mono ?_;rintro e w' ⟨rfl,d',n,os,hp,hs,rfl⟩;have hps:=hp.1;rw[List.size_toArray] at hps;obtain⟨d2,rfl⟩:∃d2:List GStr,d'=d2.toArray:=⟨d'.toList,by simp⟩;replace hps:d2.length=d.length:=by simpa using hps
 have hperm:d2.Perm d:=by
  have:=hp.2.2;rw[List.length_map] at this;have h4:d2.Perm (d.take d2.length):=by simpa[←hps] using this
  rw[List.take_of_length_le om] at h4;exact h4
 obtain⟨h1,h2⟩:=sortedStr (d':=d2) (n:=n) (os:=os) hl hps;refine⟨rfl,d2.map (·.1),(hperm.symm).map _,?_,by simp[hps],h1,h2⟩;rw[List.pairwise_map,List.pairwise_iff_getElem];intro i j hi hj hij;have h3:=hs i j (Nat.zero_le _) hij (by simp;omega);rw[ltStr] at h3;have e1:d2.toArray[j]! = d2[j]:=by simp[hj]
 have e2:d2.toArray[i]! = d2[i]:=by simp[hi]
 rw[e1,e2] at h3;simp at h3;exact h3
def strA (ls:List (List Sp)):Nat→List Sp
 | 0=>[]
 | i+1=>strA ls i++(ls.getD i []).map (fun s=>(s.1,(i:Int)))
theorem strs_snoc (l:List (List Sp))(x:List Sp):strs (l++[x])=strs l++x.map (fun s=>(s.1,l.length)):=by
 unfold strs;rw[List.zipIdx_append,List.flatMap_append]
 simp
theorem strA_strs (ls:List (List Sp)):∀i,i≤ls.length→(strA ls i).map (fun p=>(p.1,p.2.toNat))=strs (ls.take i)
 | 0,_=>rfl
 | i+1,h=>by
  have hi:i<ls.length:=om;rw[strA,List.map_append,strA_strs ls i om,List.take_add_one,List.getElem?_eq_getElem hi,Option.toList_some,strs_snoc]
  congr 1
  have hg:ls.getD i []=ls[i]:=by simp[List.getD_eq_getElem?_getD,hi]
  rw[hg,List.map_map,List.length_take];refine List.map_congr_left (fun s _=>?_);have:min i ls.length=i:=om;simp[this]
theorem strA_ok {ls:List (List Sp)}(h:∀l∈ls,∀s∈l,0≤s.1∧s.1≤1114111):∀i,∀s∈strA ls i,trOk s
 | 0,s,hs=>by simp[strA] at hs
 | i+1,s,hs=>by
  rw[strA] at hs;rcases List.mem_append.1 hs with hs|hs
  ·exact strA_ok h i s hs
  ·obtain⟨x,hx,rfl⟩:=List.mem_map.1 hs;have hm:ls.getD i []∈ls∨ls.getD i []=[]:=by
    rcases Nat.lt_or_ge i ls.length with hi|hi
    ·left;simp[List.getD_eq_getElem?_getD,hi]
    ·right;simp[List.getD_eq_getElem?_getD,hi]
   rcases hm with hm|hm
   ·have:=h _ hm x hx;unfold trOk;simp only;omega
   ·rw[hm] at hx;simp at hx
theorem strA_len {ls:List (List Sp)}{n:Nat}(h:∀l∈ls,l.length≤n):∀i,(strA ls i).length≤i*n
 | 0=>by simp[strA]
 | i+1=>by
  have ih:=strA_len h i;have hm:(ls.getD i []).length≤n:=by
   rcases Nat.lt_or_ge i ls.length with hi|hi
   ·have:ls.getD i []=ls[i]:=by simp[List.getD_eq_getElem?_getD,hi]
    rw[this];exact h _ (List.getElem_mem hi)
   ·have:ls.getD i []=[]:=by simp[List.getD_eq_getElem?_getD,hi]
    rw[this];simp
  rw[strA,List.length_append,List.length_map,Nat.add_mul];omega
theorem cls_at {kept:List (List Sp)}(hle:∀c∈kept,∀s∈c,s.1≤s.2)(hdis:∀x k k' (hk:k<kept.length) (hk':k'<kept.length),has kept[k] x=true→has kept[k'] x=true→k=k')
 {m:List Sp} (hp:(strA kept kept.length).Perm m) (hs:m.Pairwise (fun a b=>a.1≤b.1)) (hnn:∀p∈m,0≤p.2) {x:Int} {k:Nat} (hk:k<kept.length) (hx:has kept[k] x=true):ClsAt m x k:=by
 intro i hi h1 h2;have hp2:(strs kept).Perm (m.map (fun p=>(p.1,p.2.toNat))):=by
  have h3:=hp.map (fun p:Sp=>(p.1,p.2.toNat));rw[strA_strs _ _ (Nat.le_refl _),List.take_length] at h3;exact h3
 have hs2:(m.map (fun p:Sp=>(p.1,p.2.toNat))).Pairwise (fun a b=>a.1≤b.1):=by
  rw[List.pairwise_map];exact hs
 obtain⟨h0,h3,h4⟩:=stretch_law hle hdis hp2 hs2 hk hx (i:=i) (by simpa using hi) (fun j hj hji=>by simpa using h1 j (by simpa using hj) hji) (fun hj=>by simpa using h2 (by simpa using hj));have h0':i-1<m.length:=by simpa using h0
 refine⟨h0',h3,?_⟩;have h5:m[i-1].2.toNat=k:=by simpa using h4
 have h6:=hnn _ (List.getElem_mem h0');omega
theorem strA_nn {ls:List (List Sp)}:∀i,∀s∈strA ls i,0≤s.2
 | 0,s,hs=>by simp[strA] at hs
 | i+1,s,hs=>by
  rw[strA] at hs;rcases List.mem_append.1 hs with hs|hs
  ·exact strA_nn i s hs
  ·obtain⟨x,hx,rfl⟩:=List.mem_map.1 hs
   simp
end
section
open Go.RowKit
attribute [local go_sem ↓] Go.wp_at_zero Go.wp_at_succ
def RetStr (ls:List (List Sp))(w:World)(e:Ending)(w':World):Prop:=∃(A:Option Addr) (c:Nat) (m:List Sp),e=.returned (.slice A m.length c)∧SL w' A c m∧(strA ls ls.length).Perm m∧m.Pairwise (fun s t=>s.1≤t.1)∧Ext w w'
def strB (ls:List (List Sp))(i j:Nat):List Sp:=strA ls i++((ls.getD i []).take j).map (fun s=>(s.1,(i:Int)))
theorem strA_hi {ls:List (List Sp)}:∀i,∀s∈strA ls i,s.2<i
 | 0,s,hs=>by simp[strA] at hs
 | i+1,s,hs=>by
  rw[strA] at hs;rcases List.mem_append.1 hs with hs|hs
  ·have:=strA_hi i s hs;omega
  ·obtain⟨x,hx,rfl⟩:=List.mem_map.1 hs
   simp only;omega
theorem strB_zero (ls:List (List Sp))(i:Nat):strB ls i 0=strA ls i:=by simp[strB]
theorem strB_all (ls:List (List Sp))(i:Nat){l:List Sp}(h:ls.getD i []=l):strB ls i l.length=strA ls (i+1):=by
 unfold strB;rw[h,List.take_length,strA,h]
theorem strB_succ (ls:List (List Sp))(i:Nat){l:List Sp}(h:ls.getD i []=l){j:Nat}(hj:j<l.length):strB ls i (j+1)=strB ls i j++[(l[j].1,(i:Int))]:=by
 unfold strB;rw[h,List.take_add_one,List.getElem?_eq_getElem hj,List.map_append,←List.append_assoc]
 rfl
theorem stretches_any (A:Option Addr)(c:Nat)(hs:List Hs)(w:World)(hl:LLS w A c hs)(hg:∀l∈hs.map (·.l),∀s∈l,0≤s.1∧s.1≤1114111)(hn:hs.length≤1000)(hlen:∀l∈hs.map (·.l),l.length≤1000)(hne:strA (hs.map (·.l)) hs.length≠[]) :
 Calls Tryz.prog 70 #[.slice A hs.length c] w (RetStr (hs.map (·.l)) w):=by
 obtain⟨iS,jS0,jS1,jS2,jS3⟩:=info_parts infoStr;have hcap:=hl.len;have HL:=lh hl;have HLN:=fun i (hi:i≤hs.length)=>(show(strA (hs.map (·.l)) i).length≤1000000 by
  have h1:=strA_len hlen i;have:i*1000≤1000*1000:=Nat.mul_le_mul_right _ om;omega)
 have HGD:=fun i (hi:i<hs.length)=>lh (show(hs.map (·.l)).getD i []=hs[i].l by simp[List.getD_eq_getElem?_getD,hi]);have HOK:=lh (strA_ok hg hs.length);have HNE:=lh hne;obtain⟨LS,hLS⟩:∃LS,Hid (hs.map (·.l)=LS):=⟨_,lh rfl⟩;have HLL:Hid (LS.length=hs.length):=lh (by rw[←hLS.out];simp);rw[hLS.out] at HLN HGD HOK HNE ⊢;clear hl hg hlen hne;go_enter Tryz.func70,Tryz.ntmps70
 go_upto_region 3 with fail
 go_loopw [3,10] (fun v3 v10 wr=>∃(i:Nat) (B:Option Addr) (d:Nat),v10=.int .i64 i∧i≤hs.length∧v3=.slice B (strA LS i).length d∧Hid (OwnStr wr w.heap.size B d (strA LS i))∧Ext w wr) (fun _ v _=>hs.length-(intOf v).toNat)
 case atStart=>exact⟨0,none,0,rfl,om,rfl,lh (OwnS.nil _ _ _ _),Ext.rfl' _⟩
 case round=>
  obtain⟨i,B,d,rfl,hi,rfl,HB,x1⟩:=hrel;by_cases hlt:i<hs.length
  ·have hiI:(i:Int)<hs.length:=om;have HLr:=lh (HL.out.ext x1);obtain⟨rb,ro,hA,cr⟩:=HLr.out.get hlt;have hA':=hA;subst hA';have HSi:=lh (HL.out.sl _ (List.getElem_mem hlt));have hgd:=HGD i hlt;have hl1:=HLN (i+1) om;obtain⟨h,hh⟩:∃h,Hid (hs[i]=h):=⟨_,lh rfl⟩;rw[hh.out] at cr HSi hgd;obtain⟨A0,hA0⟩:∃A0,Hid (h.A=A0):=⟨_,lh rfl⟩;rw[hA0.out] at cr HSi;have hcl:=HSi.out.len;have HB0:Hid (OwnStr wr w.heap.size B d (strB LS i 0)):=lh (by rw[strB_zero];exact HB.out);have HST:=fun j (hj:j<h.l.length)=>lh (strB_succ LS i hgd.out hj);have HAL:=lh (strB_all LS i hgd.out)
   rw[←strB_zero LS i];have hlj:∀j,j≤h.l.length→(strB LS i j).length≤1000000:=fun j hj=>by
    rw[←HAL.out] at hl1;have h5:(strB LS i j).length≤(strB LS i h.l.length).length:=by
     unfold strB;rw[hgd.out];simp only[List.length_append,List.length_map,List.length_take];omega
    omega
   clear hl1 hgd HB
   go_upto_region 6 with fail
   clear cr
   go_loopw [3,17] (fun v3 v17 wr=>∃(j:Nat) (B:Option Addr) (d:Nat),v17=.int .i64 j∧j≤h.l.length∧v3=.slice B (strB LS i j).length d∧Hid (OwnStr wr w.heap.size B d (strB LS i j))∧Ext w wr) (fun _ v _=>h.l.length-(intOf v).toNat)
   case atStart=>exact⟨0,B,d,rfl,om,rfl,HB0,x1⟩
   case round=>
    obtain⟨j,B,d,rfl,hj,rfl,HB,y1⟩:=hrel;by_cases hlt2:j<h.l.length
    ·have hjI:(j:Int)<h.l.length:=om;obtain⟨sb,so,rfl,g1,g2⟩:=(HSi.out.ext y1).get hlt2;have hst:=HST j hlt2;have hlu:=hlj j hj;generalize h.l[j]=s at *;obtain⟨lo,hi2⟩:=s
     simp only at g1 g2 hst
     obtain⟨U,hU⟩:∃U,U=strB LS i j:=⟨_,rfl⟩
     rw[←hU] at HB hst hlu ⊢;clear hU;obtain⟨b1,xa⟩:=alloc1 wr 38 #[.int .i64 lo,.int .i64 hi2];obtain⟨p0,p1,_,_,pz⟩:=b1.c2;have X8:=y1.trans xa;have HO8:=lh (OwnS.ext HB.out xa);have HU3:=lh (show(U++[(lo,(i:Int))]).length=U.length+1 by simp)
     go_upto_region 8 with fail
     generalize wr.alloc (.cells #[.int .i64 lo,.int .i64 hi2] 38)=wb at *
     go_wp2_with ((at_builtin;refine wpList_app _ rfl _ _ _ rfl w.heap.size 211 iS (.agg #[.int .i64 0,.int .i64 0]) 2 16 Tryz.underlying132 jS0 jS1 jS2 jS3 rfl om B U.length d (flatS U) rfl (OwnS.ext HO8.out (Ext.alloc _ _)) _ 1 1 [.int .i64 lo,.int .i64 i] rfl rfl (blk_cells (Blk.new _ _ _)) (by intro u hu;simp only[List.mem_cons,List.not_mem_nil,or_false] at hu;rcases hu with rfl|rfl<;>rfl) um om (X8.trans (Ext.alloc _ _)).size ?_;intro B8 d8 w8 ho8 hg8 hat8))
     have e8:Ext w w8:=Ext.app (X8.trans (Ext.alloc _ _)) (OwnS.ext HO8.out (Ext.alloc _ _)) hg8;have HB8:=lh (show OwnStr w8 w.heap.size B8 d8 (U++[(lo,(i:Int))]) by
      unfold OwnStr;rw[HU3.out,flatS_append];exact ho8)
     go_roundw
     case rel=>exact⟨j+1,B8,d8,by go_num,om,by rw[hst.out,HU3.out],by rw[hst.out];exact HB8,e8⟩
     case measure=>simp[intOf];omega
    ·have hjI:¬(j:Int)<h.l.length:=om;obtain rfl:j=h.l.length:=om
     go_wp2_with fail
     go_roundw
     case rel=>exact⟨i+1,B,d,by go_num,om,by rw[←HAL.out],by rw[←HAL.out];exact HB,y1⟩
     case measure=>simp[intOf];omega
  ·have hiI:¬(i:Int)<hs.length:=om;obtain rfl:i=hs.length:=om;have hB:∃g,B=some ⟨g,0,none⟩∧w.heap.size≤g:=by
    rcases OwnS.form HB.out with⟨_,_,_,h0⟩|⟨g,cur,hB,hg,_⟩
    ·exfalso
     have h1:=flatS_len (strA LS hs.length);rw[h0] at h1;simp only[List.length_nil] at h1;exact HNE.out (List.length_eq_zero_iff.1 om)
    ·exact⟨g,hB,hg⟩
   obtain⟨g,rfl,hgb⟩:=hB;have HSRT:=lh (sortStr_any w.heap.size g d (strA LS hs.length) HOK.out wr HB.out (HLN _ (Nat.le_refl _)));have HHI:=lh (fun s hs'=>strA_hi (ls:=LS) hs.length s hs');have HNN:=lh (fun s hs'=>strA_nn (ls:=LS) hs.length s hs');obtain⟨U,hU⟩:∃U,Hid (strA LS hs.length=U):=⟨_,lh rfl⟩;rw[hU.out] at HSRT HHI HNN HOK ⊢;clear HB HNE HLN HGD
   go_upto_region 12 with fail
   refine HSRT.out.mono ?_;rintro e w2 ⟨rfl,m,hp,hs2,hml,hown,hkp⟩;have HP:=lh hp;have HM:=lh hml;have HS2:=lh hs2;clear hp hml hs2 HSRT
   go_wp2_with fail
   go_ret
   refine⟨some ⟨g,0,none⟩,d,m,by rw[HM.out];rfl,SL.of_ownT hown (fun s hs'=>?_),by rw[HLL.out,hU.out];exact HP.out,HS2.out,x1.thenQ hkp hgb⟩;have h1:=HP.out.mem_iff.2 hs';have h2:=HHI.out s h1;have h3:=HNN.out s h1;have h4:=HOK.out s h1;unfold trOk at h4;unfold S64 I64;omega
end
section
open Go.RowKit
attribute [local go_sem ↓] Go.wp_at_zero Go.wp_at_succ
structure Kb where
 A:Option Addr
 c:Nat
 l:List Bool
def cellB (r:Kb):Value:=.slice r.A r.l.length r.c
def rowsC (rows:List Kb):Array Value:=(rows.map cellB).toArray
theorem rowsC_set (rows:List Kb)(i:Nat)(r:Kb):(rowsC rows).setIfInBounds i (cellB r)=rowsC (rows.set i r):=by simp[rowsC,List.map_set]
def nilB:Kb:=⟨none,0,[]⟩
theorem Blk.cellR {w:World}{g T:Nat}{rows:List Kb}(h:Blk w g T (rowsC rows)){i:Nat}(hi:i<rows.length):w.cell? ⟨g,i,none⟩=some (cellB rows[i]):=by
 rw[h.cell];simp[rowsC,hi]
def bInts (l:List Bool):Array Value:=(l.map Value.bool).toArray
theorem bInts_set (l:List Bool)(i:Nat)(x:Bool):(bInts l).setIfInBounds i (.bool x)=bInts (l.set i x):=by simp[bInts,List.map_set]
def upB (f:Nat→Bool)(i n:Nat):List Bool:=(List.range n).map (fun j=>if j<i then f j else false)
theorem upB_len (f:Nat→Bool)(i n:Nat):(upB f i n).length=n:=by simp[upB]
theorem upB_zero (f:Nat→Bool)(n:Nat):upB f 0 n=List.replicate n false:=by
 apply List.ext_getElem
 ·simp[upB]
 ·intro j h1 h2;simp[upB]
theorem upB_set (f:Nat→Bool)(i n:Nat):(upB f i n).set i (f i)=upB f (i+1) n:=by
 apply List.ext_getElem
 ·simp[upB]
 ·intro j h1 h2;rw[List.getElem_set];simp only[upB,List.getElem_map,List.getElem_range];by_cases h:i=j
  ·subst h;simp
  ·rw[if_neg h];by_cases h3:j<i
   ·rw[if_pos h3,if_pos om]
   ·rw[if_neg h3,if_neg om]
theorem IB.of_blkB {w:World}{g T:Nat}{l:List Bool}(h:Blk w g T (bInts l))(hm:l.length≤maxLen):IB w (some ⟨g,0,none⟩) l.length l:=
 ⟨Nat.le_refl _,hm,fun _=>⟨g,0,rfl,fun i hi=>by rw[h.cell];simp[bInts,hi]⟩⟩
theorem infoBS:(Tryz.prog.info? 51).map (fun i=>(i.zero,i.size,i.bytes))=some (some (.slice none 0 0),1,24):=by kernel_rfl
theorem mkRows (n:Nat)(h:n≤1000000)(W:World):(Instr.makeSlice 139 (.int .i64 (n:Int)) (.int .i64 (n:Int))).run Tryz.prog W=.ok (.slice (some ⟨W.heap.size,0,none⟩) n n) (W.alloc (.cells (Array.replicate n (.slice none 0 0)) 51)):=by
 obtain⟨i0,hi0,hz0,hz1,hz2⟩:=info_parts infoBS;have:=run_make (P:=Tryz.prog) W 139 51 i0 (.slice none 0 0) Tryz.underlying139 hi0 hz0 .i64 .i64 n n om (Int.le_refl _) (by rw[hz2];omega) om;rw[this,hz1];simp only[Int.toNat_natCast,Value.cells];rw[madeCells_one]
 simp
theorem mkBoolsA (n:Nat)(h:n≤1000000)(W:World):(Instr.makeSlice 51 (.int .i64 (n:Int)) (.int .i64 (n:Int))).run Tryz.prog W=.ok (.slice (some ⟨W.heap.size,0,none⟩) n n) (W.alloc (.cells (bInts (List.replicate n false)) 4)):=mkBools n h W
def hasF (cs:List Int)(l:List Sp)(k:Nat):Bool:=has l (cs.getD k 0)
def TyB (w:World)(A:Option Addr):Prop:=∀b,A.map (·.block)=some b→∃cur,w.heap[b]? = some (.cells cur 4 (0,0))
theorem TyB.kp {w w':World}{A:Option Addr}{p:Nat→Prop}(h:TyB w A)(k:KpP p w w')(hp:∀b,p b→∀cur,w.heap[b]?≠some (.cells cur 4 (0,0))):TyB w' A:=fun b hb=>by
 obtain⟨cur,hh⟩:=h b hb;exact⟨cur,(k.block b (Array.getElem?_eq_some_iff.1 hh).1 (fun hq=>hp b hq cur hh)).trans hh⟩
theorem TyB.ext {w w':World}{A:Option Addr}(h:TyB w A)(x:Ext w w'):TyB w' A:=fun b hb=>by
 obtain⟨cur,hh⟩:=h b hb;exact⟨cur,(x.block b (Array.getElem?_eq_some_iff.1 hh).1).trans hh⟩
theorem IB.kpT {w w':World}{A:Option Addr}{c:Nat}{xs:List Bool}{p:Nat→Prop}(h:IB w A c xs)(t:TyB w A)(k:KpP p w w')(hp:∀b,p b→∀cur,w.heap[b]?≠some (.cells cur 4 (0,0))):IB w' A c xs:=by
 refine⟨h.le,h.cap,fun hn=>?_⟩;obtain⟨b,o,rfl,hc⟩:=h.at_ hn;refine⟨b,o,rfl,fun i hi=>?_⟩;obtain⟨cur,hh⟩:=t b rfl;rw[World.cell?_of_block (w:=w) (k.block b (World.block_lt_of_cell? _ _ (hc i hi)) (fun hq=>hp b hq cur hh))];exact hc i hi
structure RowsOk (wr:World)(hs:List Hin)(cs:List Int)(i:Nat)(rows:List Kb):Prop where
 len:rows.length=hs.length
 val:∀k (hk:k<hs.length) (hk2:k<rows.length),k<i→rows[k].l=if hs[k].op=1 then upB (hasF cs hs[k].l) cs.length cs.length else[]
 ib:∀k (hk2:k<rows.length),k<i→IB wr rows[k].A rows[k].c rows[k].l
 ty:∀k (hk2:k<rows.length),k<i→TyB wr rows[k].A
 nil:∀k (hk2:k<rows.length),i≤k→rows[k]=nilB
theorem Kp.p3 {L:List Nat}{a b:World}(h:Kp L a b):KpP (·∈L) a b:=⟨h.os,h.tape,h.output,h.size,h.block⟩
theorem IB.kpR {w w':World}{A:Option Addr}{c gH T:Nat}{bs:List Bool}{rows:List Kb}(h:IB w A c bs)(hH:Blk w gH T (rowsC rows))(k:Kp [gH] w w'):IB w' A c bs:=by
 refine⟨h.le,h.cap,fun hn=>?_⟩;obtain⟨b,o,rfl,hc⟩:=h.at_ hn;refine⟨b,o,rfl,fun i hi=>k.cell (hc i hi) ?_⟩;simp only[List.mem_singleton];rintro rfl;have h1:=hc i hi;rw[hH.cell] at h1;simp only[rowsC,List.getElem?_toArray,List.getElem?_map,Option.map_eq_some_iff] at h1;obtain⟨r,_,h2⟩:=h1;unfold cellB at h2;cases h2
def gbCells (gA:Option Addr)(gn gc:Nat)(H:Value)(M:Value)(mark:Int)(mp:Value)(L:Value):Array Value:=#[.slice gA gn gc,H,M,.int .i64 mark,mp,L]
def RetBs (gb:Nat)(gA:Option Addr)(gc:Nat)(hs:List Hin)(cs:List Int)(M:Value)(mark:Int)(mp L:Value)(w:World)(e:Ending)(w':World):Prop:=
 ∃(gH:Nat) (rows:List Kb),e=.returned (.tuple #[])∧Blk w' gb 141 (gbCells gA hs.length gc (.slice (some ⟨gH,0,none⟩) hs.length hs.length) M mark mp L)∧Blk w' gH 51 (rowsC rows)∧RowsOk w' hs cs hs.length rows∧w.heap.size≤gH∧KpP (·=gb) w w'
theorem bsort_any (w0 w:World)(hx0:Ext w0 w)(gb:Nat)(hgb:w0.heap.size≤gb)(gA:Option Addr)(gc:Nat)(hs:List Hin)(hP:PL w0 gA gc hs)(hn:hs.length≤10000)(C:Option Addr)(cc:Nat)(cs:List Int)(hC:IL w0 C cc cs)(hcs:cs.length≤10000)(H0 M:Value)(mark:Int)(mp L:Value)
 (hb:Blk w gb 141 (gbCells gA hs.length gc H0 M mark mp L)) :
 Calls Tryz.prog 71 #[.pointer (some ⟨gb,0,none⟩),.slice C cs.length cc] w (RetBs gb gA gc hs cs M mark mp L w):=by
 have hgl:=hP.len;have hcl:=hC.len;have HP:=lh hP;have HC:=lh hC;have HX:=lh hx0;have hmk:=mkRows hs.length om;have hmb:=mkBoolsA cs.length om;have q0:w.cell? ⟨gb,0,none⟩=some (.slice gA hs.length gc):=hb.cell 0;have q1:w.cell? ⟨gb,1,none⟩=some H0:=hb.cell 1;have f1:=hb.frz 1;have hgbl:=hb.lt;clear hP hC hx0;go_enter Tryz.func71,Tryz.ntmps71
 go_upto_region 1 with fail
 have B1:=hb.set 1 (.slice (some ⟨w.heap.size,0,none⟩) hs.length hs.length);have K1:KpP (·=gb) w (w.setCell ⟨gb,1,none⟩ (.slice (some ⟨w.heap.size,0,none⟩) hs.length hs.length)):=KpP.set (p:=(·=gb)) (x:=⟨gb,1,none⟩) (KpP.refl _ _) (.inl rfl) _;have hsz:(w.setCell ⟨gb,1,none⟩ (.slice (some ⟨w.heap.size,0,none⟩) hs.length hs.length)).heap.size=w.heap.size:=by simp[World.setCell]
 obtain⟨gH,hgH⟩:∃gH,gH=w.heap.size:=⟨_,rfl⟩;have hbn:gb≠gH:=om
 rw[←hgH] at B1 K1 hsz ⊢;generalize w.setCell ⟨gb,1,none⟩ (.slice (some ⟨gH,0,none⟩) hs.length hs.length)=wa at *;have BH:=Blk.new wa 51 (Array.replicate hs.length (.slice none 0 0));have EH:=Ext.alloc wa (.cells (Array.replicate hs.length (.slice none 0 0)) 51);rw[hsz] at BH;generalize wa.alloc (.cells (Array.replicate hs.length (.slice none 0 0)) 51)=wb at *;have BH1:Blk wb gH 51 (rowsC (List.replicate hs.length nilB)):=by simpa[rowsC,cellB,nilB] using BH
 replace K1:KpP (·=gb) w wb:=KpP.trans K1 (KpP.of_ext EH);have HB0:Hid (Blk wb gb 141 (gbCells gA hs.length gc (.slice (some ⟨gH,0,none⟩) hs.length hs.length) M mark mp L)):=lh (by simpa[gbCells] using B1.ext EH);have HGH:=lh hgH;have HR0:Hid (RowsOk wb hs cs 0 (List.replicate hs.length nilB)):=lh ⟨by simp,fun k _ _ h=>absurd h (Nat.not_lt_zero _),fun k _ h=>absurd h (Nat.not_lt_zero _),fun k _ h=>absurd h (Nat.not_lt_zero _),fun k hk _=>by simp⟩;have hq0:wb.cell? ⟨gb,0,none⟩=some (.slice gA hs.length gc):=HB0.out.cell 0;clear hb q0 q1 f1 BH EH B1 hgH hmk hsz
 go_upto_region 2 with fail
 clear hq0
 go_loopw [22] (fun v wr=>∃(i:Nat) (rows:List Kb),v=.int .i64 i∧i≤hs.length∧Hid (Blk wr gb 141 (gbCells gA hs.length gc (.slice (some ⟨gH,0,none⟩) hs.length hs.length) M mark mp L))∧Hid (Blk wr gH 51 (rowsC rows))∧Hid (RowsOk wr hs cs i rows)∧Hid (KpP (·=gb) w wr)) (fun v _=>hs.length-(intOf v).toNat)
 case atStart=>exact⟨0,_,rfl,om,HB0,lh BH1,HR0,lh K1⟩
 case round=>
  obtain⟨i,rows,rfl,hi,HB,HH,HR,HK⟩:=hrel;have X0:Ext w0 wr:=HX.out.thenP HK.out (fun k hk=>by have e:k=gb:=hk;omega);by_cases hlt:i<hs.length
  ·have hiI:(i:Int)<hs.length:=om;obtain⟨pb,po,hgA,c0,c1,c2,c3,c4⟩:=(HP.out.ext X0).get hlt;have hgA':=hgA;subst hgA';have hSL:=lh (HP.out.sl _ (List.getElem_mem hlt));obtain⟨h,hh⟩:∃h,Hid (hs[i]=h):=⟨_,lh rfl⟩;rw[hh.out] at c0 c1 c2 c3 c4 hSL;have hll:=hSL.out.len;have BX:=Blk.new wr 126 #[.int .i64 h.op,.int .i64 h.x,.int .i64 h.y,.int .i64 h.n,.slice h.A h.l.length h.c];have EX:=Ext.alloc wr (.cells #[.int .i64 h.op,.int .i64 h.x,.int .i64 h.y,.int .i64 h.n,.slice h.A h.l.length h.c] 126)
   go_upto_region 4 with fail
   generalize wr.alloc (.cells #[.int .i64 h.op,.int .i64 h.x,.int .i64 h.y,.int .i64 h.n,.slice h.A h.l.length h.c] 126)=wx at *;have z0:wx.cell? ⟨wr.heap.size,0,none⟩=some (.int .i64 h.op):=BX.cell 0;have z4:wx.cell? ⟨wr.heap.size,4,none⟩=some (.slice h.A h.l.length h.c):=BX.cell 4;have HBx:=lh (HB.out.ext EX);have HHx:=lh (HH.out.ext EX);have HKx:=lh (KpP.trans HK.out (KpP.of_ext EX));have hrl:=HR.out.len;by_cases hop:h.op=1
   ·rw[hop] at z0;have e1:wx.cell? ⟨gb,1,none⟩=some (.slice (some ⟨gH,0,none⟩) hs.length hs.length):=HBx.out.cell 1;have je1:=fun(w':World) (h:Kp [gH] wx w')=>h.cell e1 (by simpa using hbn);have hgHw:w.heap.size≤gH:=by rw[HGH.out];exact Nat.le_refl _
    have hgHl:gH<wr.heap.size:=HH.out.lt;have hgbl2:gb<wr.heap.size:=HB.out.lt;obtain⟨gx,hgx⟩:∃gx,gx=wr.heap.size:=⟨_,rfl⟩
    rw[←hgx] at z0 z4 BX hgHl hgbl2 ⊢;have hxl:=BX.lt;clear hgx
    go_upto_region 5 with fail
    refine Xr.start [gH] kr ?_;refine Xtk 0 ?_
    iterate 6(refine Xtn ?_)
    refine Xcl 7 fun w3 hE3 hK3 K hKK=>?_;go_simp;have BR:=Blk.new w3 4 (bInts (List.replicate cs.length false));have ER:=Ext.alloc w3 (.cells (bInts (List.replicate cs.length false)) 4);obtain⟨gR,hgR⟩:∃gR,gR=w3.heap.size:=⟨_,rfl⟩;refine hKK _ _ ER ?_;clear hKK
    rw[←hgR] at BR ⊢;have hgRx:wx.heap.size≤gR:=by rw[hgR];exact hE3.size
    have hRH:gR≠gH:=by have:=EX.size;omega
    have hRb:gR≠gb:=by have:=EX.size;omega
    have hRx:gR≠gx:=om;clear hgR;refine ptm ?_;refine Xtk 8 ?_;generalize w3.alloc (.cells (bInts (List.replicate cs.length false)) 4)=wz at *;refine Xsp 9 fun w4 hE4 hK4 K hKK=>?_;have H4:=HHx.out.ext ((hE3.trans ER).trans hE4);have c4x:=H4.cellR (i:=i) (by rw[hrl];exact hlt);have f4x:=H4.frz i;go_simp;refine hKK _ _ (WI_setL (WI_refl _ _ _) List.mem_cons_self _ _) (hK4.setL List.mem_cons_self _ _) ?_;clear hKK;refine ptm ?_;refine Xdn fun w5 hE5 hK5=>?_;obtain⟨r0,hr0⟩:∃r0:Kb,r0=⟨some ⟨gR,0,none⟩,cs.length,upB (hasF cs h.l) cs.length cs.length⟩:=⟨_,rfl⟩;have hcr:cellB r0=.slice (some ⟨gR,0,none⟩) cs.length cs.length:=by rw[hr0];unfold cellB;simp only[upB_len]
    have H5:=(H4.set i (.slice (some ⟨gR,0,none⟩) cs.length cs.length)).ext hE5
    rw[←hcr,rowsC_set] at H5;have R5:Blk w5 gR 4 (bInts (upB (hasF cs h.l) 0 cs.length)):=by
     rw[upB_zero];exact((BR.ext hE4).far (p:=⟨gH,i,none⟩) hRH _).ext hE5
    have HH5:=lh H5;have HR5:=lh R5;have HCR:=lh hcr;have HR0':=lh hr0;clear H4 c4x f4x H5 R5 BR hE3 hK3 ER hE4 hK4 hE5 je1 hcr hr0
    go_upto_region 7 with fail
    go_loopw [41] (fun v wr=>∃k:Nat,v=.int .i64 k∧k≤cs.length∧Hid (Blk wr gH 51 (rowsC (rows.set i r0)))∧Hid (Blk wr gR 4 (bInts (upB (hasF cs h.l) k cs.length)))∧Kp [gH] wx wr) (fun v _=>cs.length-(intOf v).toNat)
    case atStart=>exact⟨0,rfl,om,HH5,HR5,hK5⟩
    case round=>
     obtain⟨k,rfl,hk,HHr,HRr,HKr⟩:=hrel;have HKw:=lh (KpP.thenKp HKx.out HKr (fun i hi=>by
      have e:i=gH:=by simpa using hi
      right;omega))
     have Xr0:Ext w0 wr:=HX.out.thenP HKw.out (fun k hk=>by have e:k=gb:=hk;omega);by_cases hlt2:k<cs.length
     ·have hkI:(k:Int)<cs.length:=om;obtain⟨cb,co,hCA,ck⟩:=(HC.out.ext Xr0).get hlt2;have hCA':=hCA;subst hCA';have hbr:wr.cell? ⟨gb,1,none⟩=some (.slice (some ⟨gH,0,none⟩) hs.length hs.length):=HKr.cell e1 (by simpa using hbn);have hxr:wr.cell? ⟨gx,4,none⟩=some (.slice h.A h.l.length h.c):=HKr.cell z4 (by simp;omega);have hir:=HHr.out.cellR (i:=i) (by rw[List.length_set,hrl];exact hlt);have hget:(rows.set i r0)[i]'(by rw[List.length_set,hrl];exact hlt)=r0:=by simp
      rw[hget,HCR.out] at hir;have HV:=lh (show hasF cs h.l k=has h.l cs[k] by simp[hasF,List.getD_eq_getElem?_getD,hlt2]);have HS:=fun(w':World) (x:Ext wr w')=>lh (sHas_any h.A h.c h.l cs[k] w' (hSL.out.ext (Xr0.trans x)));generalize cs[k]=x at *;generalize has h.l x=bv at *;have j1:=fun(w':World) (h:Kp [gR] wr w')=>h.cell hbr (by simpa using hRb.symm);have j2:=fun(w':World) (h:Kp [gR] wr w')=>h.cell hxr (by simpa using hRx.symm);have j3:=fun(w':World) (h:Kp [gR] wr w')=>h.cell hir (by simpa using hRH.symm);clear hget
      go_upto_region 9 with fail
      refine Xr.start [gR] kr ?_;refine Xtk 0 ?_
      iterate 10(refine Xtn ?_)
      refine Xcl 11 fun w4 hE4 hK4 K hKK=>?_;go_simp;refine(HS w4 hE4).out.mono ?_;rintro e w5 ⟨rfl,x5⟩;refine hKK _ _ x5 ?_;clear hKK;refine ptm ?_;refine Xtk 12 ?_;have E45:=hE4.trans x5;refine Xsp 13 fun w6 hE6 hK6 K hKK=>?_;have R6:=HRr.out.ext (E45.trans hE6);have c6:w6.cell? ⟨gR,k,none⟩=some (.bool ((upB (hasF cs h.l) k cs.length).getD k false)):=by
       rw[R6.cell];simp[bInts,upB,hlt2,List.getD_eq_getElem?_getD]
      have f6:=R6.frz k;go_simp;refine hKK _ _ (WI_setL (WI_refl _ _ _) List.mem_cons_self _ _) (hK6.setL List.mem_cons_self _ _) ?_;clear hKK;refine ptm ?_;refine Xdn fun w7 hE7 hK7=>?_;have R7:=(R6.set k (.bool bv)).ext hE7;rw[bInts_set,←HV.out,upB_set] at R7;have HR7:=lh R7;have HH7:=lh (((HHr.out.ext (E45.trans hE6)).far (p:=⟨gR,k,none⟩) hRH.symm (.bool bv)).ext hE7);have K7:Kp [gH] wx w7:=(((HKr.ext (E45.trans hE6)).set (p:=⟨gR,k,none⟩) (.inr hgRx) (.bool bv))).ext hE7;clear R6 R7 c6 f6 j1 j2 j3
      go_wp2_with fail
      go_roundw
      case rel=>exact⟨k+1,by go_num,om,HH7,HR7,K7⟩
      case measure=>simp[intOf];omega
     ·have hkI:¬(k:Int)<cs.length:=om;obtain rfl:k=cs.length:=om;have HB9:=lh (Kp.blk HBx.out HKr (by simpa using hbn));have hR0:=HR0'.out;have HR9:Hid (RowsOk wr hs cs (i+1) (rows.set i r0)):=lh ⟨by rw[List.length_set];exact hrl,fun k hk hk2 hki=>by
       rw[List.length_set] at hk2;by_cases e:i=k
       ·subst e;rw[List.getElem_set_self,hR0,if_pos (by rw[hh.out];exact hop),hh.out]
       ·rw[List.getElem_set_ne e];exact HR.out.val k hk hk2 om,fun k hk2 hki=>by
       rw[List.length_set] at hk2;by_cases e:i=k
       ·subst e;rw[List.getElem_set_self,hR0];have h9:=IB.of_blkB HRr.out (by rw[upB_len];unfold maxLen;omega);rw[upB_len] at h9;exact h9
       ·rw[List.getElem_set_ne e];exact((HR.out.ib k hk2 om).ext EX).kpR HHx.out HKr,fun k hk2 hki=>by
       rw[List.length_set] at hk2;by_cases e:i=k
       ·subst e;rw[List.getElem_set_self,hR0];intro b hb;have e:gR=b:=by simpa using hb
        subst e;exact⟨_,HRr.out⟩
       ·rw[List.getElem_set_ne e];exact((HR.out.ty k hk2 om).ext EX).kp (Kp.p3 HKr) (fun b hb cur hh=>by
         have e:b=gH:=by simpa using hb
         subst e;have h9:=HHx.out;unfold Blk at h9;rw[h9] at hh;injection hh with hh;injection hh with _ h3
         revert h3;decide),fun k hk2 hki=>by
       rw[List.length_set] at hk2;rw[List.getElem_set_ne om];exact HR.out.nil k hk2 om⟩
      clear hR0
      go_wp2_with fail
      go_roundw
      case rel=>exact⟨i+1,rows.set i r0,by go_num,om,HB9,HHr,HR9,HKw⟩
      case measure=>simp[intOf];omega
   ·have hopb:(h.op != 1)=true:=by simpa using hop
    have HR2:Hid (RowsOk wx hs cs (i+1) rows):=lh ⟨hrl,fun k hk hk2 hki=>by
     rcases Nat.lt_or_ge k i with h3|h3
     ·exact HR.out.val k hk hk2 h3
     ·have e:k=i:=om;subst e;rw[HR.out.nil k hk2 (Nat.le_refl _),if_neg (by rw[hh.out];exact hop)]
      rfl,fun k hk2 hki=>by
     rcases Nat.lt_or_ge k i with h3|h3
     ·exact(HR.out.ib k hk2 h3).ext EX
     ·rw[HR.out.nil k hk2 h3];exact⟨Nat.le_refl _,Nat.zero_le _,fun hn=>absurd rfl hn⟩,fun k hk2 hki=>by
     rcases Nat.lt_or_ge k i with h3|h3
     ·exact(HR.out.ty k hk2 h3).ext EX
     ·rw[HR.out.nil k hk2 h3];exact fun b hb=>by simp[nilB] at hb,fun k hk2 hki=>HR.out.nil k hk2 om⟩
    clear HR HB HH HK
    go_wp2_with fail
    go_roundw
    case rel=>exact⟨i+1,rows,by go_num,om,HBx,HHx,HR2,HKx⟩
    case measure=>simp[intOf];omega
  ·have hiI:¬(i:Int)<hs.length:=om;obtain rfl:i=hs.length:=om
   go_wp2_with fail
   exact bodyPost_ret (v:=.tuple #[]) (by simp[results,Tryz.results71,go_sem]) rfl ⟨gH,rows,rfl,HB.out,HH.out,HR.out,by rw[HGH.out];exact Nat.le_refl _,HK.out⟩
end
section
open Go.RowKit
structure MachOf (G:List Ins)(cs:List Int)(R:List St)(m:Ma):Prop where
 good:GoodL R
 len:R.length≤1024
 st0:stateG G [0]=[]∨stateG G [0]∈R
 clo:∀l∈R,∀c∈cs,nextG G l c=[]∨nextG G l c∈R
 first:m.first=idx R (stateG G [0])
 nx:rowsOf m.next=R.map (fun l=>cs.map (fun c=>idx R (nextG G l c)))
 dn:m.done=R.map (doneG G)
 ol:m.opn.length=R.length
def ClOf (G:List Ins)(cs:List Int)(cf:Int→Nat)(x:Int):Prop:=∃h:cf x<cs.length,∀l,nextG G l x=nextG G l cs[cf x]
section
variable {G:List Ins} {cs:List Int} {R:List St} {m:Ma} {cf:Int→Nat}
theorem MachOf.n (h:MachOf G cs R m):m.next.length=R.length:=by
 have:=congrArg List.length h.nx
 simpa[rowsOf] using this
theorem MachOf.nx_at (h:MachOf G cs R m){s:St}(hs:s∈R){k:Nat}(hk:k<cs.length):m.nx (idx R s) k=idx R (nextG G s cs[k]):=by
 have hn:s≠[]:=fun e=>h.good.2 (e▸hs);obtain⟨h0,h1,h2⟩:=idx_bd hs hn;unfold Ma.nx nxF;rw[h.nx];have h3:(R.map (fun l=>cs.map (fun c=>idx R (nextG G l c)))).getD (idx R s).toNat []=cs.map (fun c=>idx R (nextG G s c)):=by
  rw[List.getD_eq_getElem?_getD,List.getElem?_map,h2];rfl
 rw[h3];simp[List.getD_eq_getElem?_getD,hk]
theorem MachOf.dn_at (h:MachOf G cs R m){s:St}(hs:s∈R):m.dn (idx R s)=doneG G s:=by
 have hn:s≠[]:=fun e=>h.good.2 (e▸hs);obtain⟨h0,h1,h2⟩:=idx_bd hs hn;unfold Ma.dn dmF;rw[h.dn,List.getD_eq_getElem?_getD,List.getElem?_map,h2]
 rfl
theorem MachOf.run (h:MachOf G cs R m)(l:List Int)(hl:∀x∈l,ClOf G cs cf x)(k:Nat)(s:St)(last:Int)(hs:s=[]∨s∈R) :
 runM m.nx m.dn (l.map cf) k (idx R s) last=(idx R (runR (nextG G) (doneG G) l k s last).1,(runR (nextG G) (doneG G) l k s last).2)∧((runR (nextG G) (doneG G) l k s last).1=[]∨(runR (nextG G) (doneG G) l k s last).1∈R):=by
 refine run_eq (R:=(·∈R)) (A:=ClOf G cs cf) (g:=idx R) (cl:=cf) (fun c=>nextG_nil G c) (doneG_nil G) (by simp[idx]) (fun s hs=>?_) (fun s c hs hc=>?_) (fun s c hs hc=>?_) (fun s hs=>h.dn_at hs) l k s last hl hs
 ·have hn:s≠[]:=fun e=>h.good.2 (e▸hs);have:=idx_bd hs hn;omega
 ·obtain⟨hk,he⟩:=hc;rw[he s];exact h.clo s hs _ (List.getElem_mem hk)
 ·obtain⟨hk,he⟩:=hc;rw[he s];exact h.nx_at hs hk
theorem plc_idx2 (hg:GoodL R){s:St}(hs:s=[]∨s∈R):plc R s=idx R s:=by
 unfold plc idx;rcases hs with rfl|hs
 ·rw[if_neg hg.2,if_pos rfl]
 ·have hn:s≠[]:=fun e=>by rw[e] at hs;exact hg.2 hs
  rw[if_pos hs,if_neg hn]
theorem MachOf.start (h:MachOf G cs R m)(ts:List Int)(hl:∀x∈ts,ClOf G cs cf x)(k:Nat) :
 stF m (ts.map cf) k=idx R (rrun G (stateG G [0]) (ts.drop k) 0).1∧enF m (ts.map cf) k=(if(rrun G (stateG G [0]) (ts.drop k) 0).2 = -1 then -1 else(k:Int)+(rrun G (stateG G [0]) (ts.drop k) 0).2)∧
 ((rrun G (stateG G [0]) (ts.drop k) 0).1=[]∨(rrun G (stateG G [0]) (ts.drop k) 0).1∈R):=by
 have hd:(ts.map cf).drop k=(ts.drop k).map cf:=by rw[List.map_drop]
 have hr:=h.run (cf:=cf) (ts.drop k) (fun x hx=>hl x (List.mem_of_mem_drop hx)) 0 (stateG G [0]) (if doneG G (stateG G [0])=true∧(0:Int)=0 then 0 else -1) h.st0;have hini:iniL m.dn m.first k=(if(if doneG G (stateG G [0])=true∧(0:Int)=0 then(0:Int) else -1) = -1 then(-1:Int) else(k:Int)+(if doneG G (stateG G [0])=true∧(0:Int)=0 then(0:Int) else -1)):=by
  unfold iniL;rw[h.first];rcases h.st0 with h0|h0
  ·rw[h0,doneG_nil];simp[idx]
  ·have hn:stateG G [0]≠[]:=fun e=>h.good.2 (e▸h0);have hb:=idx_bd h0 hn;rw[h.dn_at h0];by_cases hq:doneG G (stateG G [0])=true
   ·have e:(if doneG G (stateG G [0])=true∧(0:Int)=0 then(0:Int) else -1)=0:=if_pos ⟨hq,rfl⟩;rw[e,if_pos ⟨om,hq⟩,if_neg om];omega
   ·have e:(if doneG G (stateG G [0])=true∧(0:Int)=0 then(0:Int) else -1) = -1:=if_neg (fun hh=>hq hh.1);rw[e,if_neg (fun hh=>hq hh.2),if_pos rfl]
 have hs:=runM_shift m.nx m.dn ((ts.drop k).map cf) k 0 m.first _ (iniL m.dn m.first k) (-1) hini;rw[Nat.add_zero] at hs;have e:enS m.nx m.dn m.first (ts.map cf) k=runM m.nx m.dn ((ts.drop k).map cf) k m.first (iniL m.dn m.first k):=by unfold enS;rw[hd]
 rw[h.first,hr.1] at hs;refine⟨?_,?_,hr.2⟩
 ·unfold stF;rw[e,h.first,hs]
  rfl
 ·unfold enF;rw[e,h.first,hs]
  rfl
theorem MachOf.found (h:MachOf G cs R m)(ts:List Int)(hl:∀x∈ts,ClOf G cs cf x)(sure:Bool)(fits:Int→Bool)(hf:∀st,fits st=(!sure || sureF m st)):startsG m (ts.map cf) fits=foundG G R m.opn ts sure:=by
 have hst:=h.start (cf:=cf) ts hl;have hfit:∀s,s=[]∨s∈R→fits (idx R s)=(!sure || (decide (plc R s<0) || !m.opn.getD (plc R s).toNat false)):=fun s hs=>by
  rw[hf,plc_idx2 h.good hs];unfold sureF;have h7:(idx R s = -1)↔(idx R s<0):=by
   unfold idx;split<;>omega
  rw[decide_eq_decide.2 h7]
 have hup:∀k,strU m (ts.map cf) fits k=fndUp G R m.opn ts sure k:=fun k=>by
  induction k with
  | zero=>rfl
  | succ k ih=>
   rw[strU,fndUp,ih]
   congr 1
   obtain⟨h1,h2,h3⟩:=hst k;have hb:=rrun_bd G (stateG G [0]) (ts.drop k) 0;rw[h1,h2,hfit _ h3];unfold fndB;by_cases hq:(rrun G (stateG G [0]) (ts.drop k) 0).2 = -1
   ·rw[if_pos hq,hq];simp
   ·rw[if_neg hq];have h4:0≤(rrun G (stateG G [0]) (ts.drop k) 0).2:=om;have h5:(k:Int)+(rrun G (stateG G [0]) (ts.drop k) 0).2≠-1:=om;simp only[h4,decide_true,Bool.true_and,ne_eq,h5,not_false_eq_true,true_and]
 have hlen:(ts.map cf).length=ts.length:=by simp
 unfold startsG foundG;rw[hlen,hup,fndUp]
 congr 1
 unfold fndB;have hd:ts.drop ts.length=[]:=List.drop_length;have hr:rrun G (stateG G [0]) [] 0=(stateG G [0],if doneG G (stateG G [0])=true∧(0:Int)=0 then 0 else -1):=rfl;rw[hd,hr,h.first,hfit _ h.st0]
 simp only
 rcases h.st0 with h0|h0
 ·rw[h0,doneG_nil];simp[idx]
 ·have hn:stateG G [0]≠[]:=fun e=>h.good.2 (e▸h0);have hb:=idx_bd h0 hn;rw[h.dn_at h0];by_cases hq:doneG G (stateG G [0])=true
  ·have h6:idx R (stateG G [0])≠-1:=om;simp[hq,h6]
  ·simp[hq]
end
end
end Go.Proofs.YtmocoldobnimfaaGreat
