/- Texts of this proof: Y14 Y15 Y16 Y17 Y18 Y19 Y20 Y21 Y22. -/
import Derived.Test.YtmpcoifnpflapaaGreatER26
import Derived.Test.YtmpcoifnpflapaaGreatER32
import Derived.Test.YtmpcoifnpflapaaGreatER36
import Derived.DataReads
import Derived.OpenShut
set_option linter.all false
set_option maxRecDepth 100000
set_option maxHeartbeats 16000000
namespace Go.Proofs.YtmpcoifnpflapaaGreat
section
open Go.RowKit
attribute [local go_sem ↓] Go.wp_at_zero Go.wp_at_succ
theorem textE1 (runes:Bool)(x:Int):textE runes [x]=if symV runes x=true then 0 else 5:=by
 unfold textE;rw[if_neg si]
 simp
theorem infoI1:(Tryz.prog.info? 3).map (fun i=>(i.zero,i.size,i.bytes))=some (some (.int .i64 0),1,8):=by kernel_rfl
def inhB (runes:Bool)(h:Hs):Bool:=(endsL h.l).any (symV runes)
def inhU (runes:Bool)(hs:List Hs)(i:Nat):List Hs:=(hs.take i).filter (inhB runes)
theorem inhU_succ {runes:Bool}{hs:List Hs}{i:Nat}(hi:i<hs.length):inhU runes hs (i+1)=if inhB runes hs[i]=true then inhU runes hs i++[hs[i]] else inhU runes hs i:=by
 unfold inhU;rw[List.take_add_one,List.getElem?_eq_getElem hi];simp only[Option.toList_some,List.filter_append];by_cases h:inhB runes hs[i]=true
 ·rw[if_pos h,List.filter_cons_of_pos h];rfl
 ·rw[if_neg h,List.filter_cons_of_neg h];simp
theorem inhU_len (runes:Bool)(hs:List Hs)(i:Nat):(inhU runes hs i).length<=i:=by
 unfold inhU;exact Nat.le_trans (List.length_filter_le _ _) (by rw[List.length_take];omega)
theorem inhU_mem {runes:Bool}{hs:List Hs}{i:Nat}{z:Hs}(h:z∈inhU runes hs i):z∈hs:=List.mem_of_mem_take (List.mem_filter.1 h).1
theorem inhU_all (runes:Bool)(hs:List Hs):(inhU runes hs hs.length).map (·.l)=keepC runes (hs.map (·.l)):=by
 unfold inhU keepC;rw[List.take_length,List.filter_map]
 rfl
theorem endsL_take {l:List Sp}{j:Nat}(hj:j<l.length):endsL (l.take (j+1))=endsL (l.take j)++[l[j].1,l[j].2]:=by
 unfold endsL;rw[List.take_add_one,List.getElem?_eq_getElem hj,List.flatMap_append]
 simp
theorem endsL_split {l:List Sp}{j:Nat}(hj:j<l.length):∃r,endsL l=endsL (l.take j)++l[j].1::l[j].2::r:=by
 refine⟨endsL (l.drop (j+1)),?_⟩;have h:l=l.take j++l[j]::l.drop (j+1):=by rw[<-List.drop_eq_getElem_cons hj,List.take_append_drop]
 have h2:endsL (l.take j++l[j]::l.drop (j+1))=endsL (l.take j)++l[j].1::l[j].2::endsL (l.drop (j+1)):=by
  unfold endsL;rw[List.flatMap_append,List.flatMap_cons]
  rfl
 exact(congrArg endsL h).trans h2
theorem smp_lo {runes:Bool}{l:List Sp}{j:Nat}(hj:j<l.length)(h0:∀x∈endsL (l.take j),symV runes x=false)(h1:symV runes l[j].1=true):(endsL l).any (symV runes)=true/\smpP runes l=l[j].1:=by
 obtain⟨r,hr⟩:=endsL_split hj;have hf:(endsL (l.take j)).find? (symV runes)=none:=List.find?_eq_none.2 (fun x hx=>by rw[h0 x hx];simp);refine⟨by rw[hr];simp[h1],?_⟩;unfold smpP;rw[hr,List.find?_append,hf];simp[h1]
theorem smp_hi {runes:Bool}{l:List Sp}{j:Nat}(hj:j<l.length)(h0:∀x∈endsL (l.take j),symV runes x=false)(h1:symV runes l[j].1=false)(h2:symV runes l[j].2=true):(endsL l).any (symV runes)=true/\smpP runes l=l[j].2:=by
 obtain⟨r,hr⟩:=endsL_split hj;have hf:(endsL (l.take j)).find? (symV runes)=none:=List.find?_eq_none.2 (fun x hx=>by rw[h0 x hx];simp);refine⟨by rw[hr];simp[h2],?_⟩;unfold smpP;rw[hr,List.find?_append,hf];simp[h1,h2]
theorem smp_no {runes:Bool}{l:List Sp}{j:Nat}(hj:j<l.length)(h0:∀x∈endsL (l.take j),symV runes x=false)(h1:symV runes l[j].1=false)(h2:symV runes l[j].2=false):∀x∈endsL (l.take (j+1)),symV runes x=false:=by
 intro x hx;rw[endsL_take hj] at hx;rcases List.mem_append.1 hx with hx|hx
 ·exact h0 x hx
 ·simp only[List.mem_cons,List.not_mem_nil,or_false] at hx;rcases hx with rfl|rfl
  ·exact h1
  ·exact h2
theorem LLS.of_own {w:World}{base c:Nat}{O:Option Addr}{ks:List Hs}(h:OwnS w base 25 1 O ks.length c (flatH ks))(hs:∀z∈ks,SL w z.A z.c z.l):LLS w O c ks:=by
 have hc:=OwnS.caps h;refine⟨hc.1,by unfold maxLen;omega,hs,fun hn=>?_⟩;obtain⟨b,o,rfl,hcell⟩:=OwnS.cells h (by unfold flatH;simpa using hn);refine⟨b,o,rfl,fun i hi=>?_⟩;have:=hcell i (by simpa[flatH] using hi)
 simpa[flatH] using this
theorem smp_I64 {runes:Bool}{z:Hs}(h:inhB runes z=true)(hs:∀s∈z.l,S64 s):I64 (smpP runes z.l):=by
 obtain⟨s,hm,hx⟩:=List.mem_flatMap.1 (smpP_in h).1;have h2:=hs s hm;simp only[List.mem_cons,List.not_mem_nil,or_false] at hx;rcases hx with hx|hx<;>rw[hx]
 ·exact h2.1
 ·exact h2.2
theorem inhU_b {runes:Bool}{hs:List Hs}{i:Nat}{z:Hs}(h:z∈inhU runes hs i):inhB runes z=true:=(List.mem_filter.1 h).2
def RetInh (runes:Bool)(hs:List Hs)(w:World)(e:Ending)(w':World):Prop:=∃(O:Option Addr) (cO:Nat) (B:Option Addr) (d:Nat),
 e=.returned (.tuple #[.slice O (inhU runes hs hs.length).length cO,.slice B (inhU runes hs hs.length).length d])/\LLS w' O cO (inhU runes hs hs.length)/\IL w' B d ((inhU runes hs hs.length).map (fun z=>smpP runes z.l))/\Ext w w'
theorem Y14z1 {P:Prop} (h:P:=by
 go_roundw
 case rel=>exact⟨i+1,O9,cO9,B10,d10,by go_num,om,by rw[HU2.out,HKL.out],by rw[HU2.out,HKL.out],by rw[HU2.out];exact HO10,by rw[HU2.out,HX2.out,HKL.out];exact HB10,e10⟩
 case measure=>simp[intOf];omega):P:=h
theorem inhabited_any (A:Option Addr)(c:Nat)(hs:List Hs)(runes:Bool)(w:World)(hl:LLS w A c hs)(hn:hs.length<=100000) :
 Calls Tryz.prog 70 #[.slice A hs.length c,.bool runes] w (RetInh runes hs w):=by
 obtain⟨iI,jI0,jI1,jI2,jI3⟩:=info_parts infoI1;obtain⟨i0,hi0,hz0,hz1,hz2⟩:=info_parts infoSl;have hcap:=hl.len;have HL:=lh hl;have HTV:=fun(x:Int) (hx:I64 x) (W:World)=>lh (show Calls Tryz.prog 90 #[.slice (some ⟨W.heap.size,0,none⟩) 1 1,.bool runes] (W.alloc (.cells #[.int .i64 x] 3)) (RetV (.int .i64 (if symV runes x=true then 0 else 5)) (W.alloc (.cells #[.int .i64 x] 3))) by
  have h:=tvalid_any (some ⟨W.heap.size,0,none⟩) 1 [x] runes (W.alloc (.cells #[.int .i64 x] 3)) (IL.one (x:=x) (Blk.new _ _ _) hx);rw[textE1] at h;exact h)
 have HSU:=fun i (hi:i<hs.length)=>lh (inhU_succ (runes:=runes) hi);have HUL:=fun i=>inhU_len runes hs i;have HUM:=fun i z=>lh (inhU_mem (runes:=runes) (hs:=hs) (i:=i) (z:=z));clear hl;go_enter Tryz.func70,Tryz.ntmps70
 go_upto_region 4 with fail
 go_loopw [6,7,15] (fun v6 v7 v15 wr=>∃(i:Nat) (O:Option Addr) (cO:Nat) (B:Option Addr) (d:Nat),v15=.int .i64 i/\i<=hs.length/\v6=.slice O (inhU runes hs i).length cO/\v7=.slice B (inhU runes hs i).length d/\
  Hid (OwnS wr w.heap.size 25 1 O (inhU runes hs i).length cO (flatH (inhU runes hs i)))/\Hid (OwnS wr w.heap.size 3 1 B (inhU runes hs i).length d (((inhU runes hs i).map (fun z=>smpP runes z.l)).map (Value.int .i64)))/\Ext w wr) (fun _ _ v _=>hs.length-(intOf v).toNat)
 case atStart=>exact⟨0,none,0,none,0,rfl,om,rfl,rfl,lh (OwnS.nil _ _ _ _),lh (OwnS.nil _ _ _ _),Ext.rfl' _⟩
 case round=>
  obtain⟨i,O,cO,B,d,rfl,hi,rfl,rfl,HO,HB,x1⟩:=hrel;by_cases hlt:i<hs.length
  ·have hiI:(i:Int)<hs.length:=om;have HLr:=lh (HL.out.ext x1);obtain⟨rb,ro,hA,cr⟩:=HLr.out.get hlt;have hA':=hA;subst hA';have HSi:=lh (HLr.out.sl _ (List.getElem_mem hlt));have hsu:=HSU i hlt;have hul:=HUL i;obtain⟨h,hh⟩:∃h,h=hs[i]:=⟨_,rfl⟩
   rw[<-hh] at cr HSi hsu;have HH:=lh hh;clear hh;obtain⟨A0,hA0⟩:∃A0,Hid (h.A=A0):=⟨_,lh rfl⟩;rw[hA0.out] at cr;replace HSi:=lh (show SL wr A0 h.c h.l from by have h9:=HSi.out;rw[hA0.out] at h9;exact h9);obtain⟨ks,hks⟩:∃ks,ks=inhU runes hs i:=⟨_,rfl⟩
   rw[<-hks] at HO HB hsu hul ⊢;have HKS:=lh hks;clear hks;have hcl:=HSi.out.len;have HMX:Hid ((ks.map (fun z=>smpP runes z.l)).length=ks.length):=lh si;obtain⟨xs,hxs⟩:∃xs,Hid (ks.map (fun z=>smpP runes z.l)=xs):=⟨_,lh rfl⟩;rw[hxs.out] at HB HMX;obtain⟨w1,rfl⟩:∃w1,w1=wr:=⟨wr,rfl⟩
   go_upto_region 7 with fail
   clear cr
   go_loopw [6,7,21] (fun v6 v7 v21 wr=>∃j:Nat,v21=.int .i64 j/\j<=h.l.length/\v6=.slice O ks.length cO/\v7=.slice B ks.length d/\Hid (∀x∈endsL (h.l.take j),symV runes x=false)/\Ext w1 wr) (fun _ _ v _=>h.l.length-(intOf v).toNat)
   case atStart=>exact⟨0,rfl,om,rfl,rfl,lh (by simp[endsL]),Ext.rfl' _⟩
   case round=>
    obtain⟨j,rfl,hj,rfl,rfl,HN,y1⟩:=hrel;by_cases hlt2:j<h.l.length
    ·have hjI:(j:Int)<h.l.length:=om;have hwf:=(HSi.out.ext y1).wf hlt2;obtain⟨sb,so,rfl,g1,g2⟩:=(HSi.out.ext y1).get hlt2;have HLO:=fun h1=>lh (smp_lo (runes:=runes) hlt2 HN.out h1);have HHI:=fun h1 h2=>lh (smp_hi (runes:=runes) hlt2 HN.out h1 h2);have HNO:=fun h1 h2=>lh (smp_no (runes:=runes) hlt2 HN.out h1 h2);generalize h.l[j]=s at *;obtain⟨lo,hi2⟩:=s
     simp only at g1 g2 HLO HHI HNO
     have hlo:I64 lo:=hwf.1;have hhi:I64 hi2:=hwf.2;obtain⟨b1,xa⟩:=alloc1 wr 24 #[.int .i64 lo,.int .i64 hi2];obtain⟨p0,p1,_,_,pz⟩:=b1.c2;have y2:=y1.trans xa;by_cases hv:symV runes lo=true
     ·have HF:=HLO hv;have HU2:=lh (show inhU runes hs (i+1)=ks++[h] by rw[hsu.out,if_pos (show inhB runes h=true from HF.out.1)]);have HX2:=lh (show(ks++[h]).map (fun z=>smpP runes z.l)=xs++[lo] by rw[List.map_append,hxs.out];simp only[List.map_cons,List.map_nil];rw[HF.out.2]);have HKL:=lh (show(ks++[h]).length=ks.length+1 by simp);have HXL:=lh (show(xs++[lo]).length=xs.length+1 by simp);have hxl:xs.length<=i:=by rw[HMX.out];exact hul
      clear hsu HLO HHI HNO HF;have HT1:=fun(W:World)=>lh (show Calls Tryz.prog 90 #[.slice (some ⟨W.heap.size,0,none⟩) 1 1,.bool runes] (W.alloc (.cells #[.int .i64 lo] 3)) (RetV (.int .i64 0) (W.alloc (.cells #[.int .i64 lo] 3))) by
       have h9:=(HTV lo hlo W).out;rw[if_pos hv] at h9;exact h9)
      clear hv HTV
      go_upto_region 10 with fail
      generalize wr.alloc (.cells #[.int .i64 lo,.int .i64 hi2] 24)=wb at *
      go_upto_region 11 with fail
      refine(HT1 wb).out.mono ?_;rintro e w4 ⟨rfl,x4⟩
      go_upto_region 13 with fail
      refine(HT1 w4).out.mono ?_;rintro e w6 ⟨rfl,x6⟩
      go_upto_region 13 with fail
      have Y6:Ext wr w6:=((xa.trans (Ext.alloc _ _)).trans x4).trans ((Ext.alloc _ _).trans x6);have X8:=x1.trans (y1.trans Y6);have HO8:=lh (OwnS.ext HO.out (y1.trans Y6));have HB8:=lh (OwnS.ext HB.out (y1.trans Y6))
      go_upto_region 14 with((at_builtin;refine wpList_app _ rfl _ _ _ rfl w.heap.size 25 i0 (.slice none 0 0) 1 24 Tryz.underlying135 hi0 hz0 hz1 hz2 rfl om O ks.length cO (flatH ks) rfl (OwnS.ext HO8.out (Ext.alloc _ _)) _ 1 1 [.slice (some ⟨sb,so,none⟩) h.l.length h.c] rfl rfl (blk_cells (Blk.new _ _ _)) (by intro u hu;simp only[List.mem_cons,List.not_mem_nil,or_false] at hu;rcases hu with rfl;rfl) um om (X8.trans (Ext.alloc _ _)).size ?_;intro O9 cO9 w9 ho9 hg9 hat9))
      have e9:Ext w w9:=Ext.app (X8.trans (Ext.alloc _ _)) (OwnS.ext HO8.out (Ext.alloc _ _)) hg9;have HB9:=lh (OwnS.kp (OwnS.ext HB8.out (Ext.alloc _ _)) (KpP.of_grown hg9) (fun b hb he=>own_ne HO8.out HB8.out de he hb));have HO9:=lh (show OwnS w9 w.heap.size 25 1 O9 (ks++[h]).length cO9 (flatH (ks++[h])) by
       rw[HKL.out];unfold flatH at ho9 ⊢;rw[List.map_append,List.map_cons,List.map_nil,hA0.out];exact ho9)
      go_wp2_with ((at_builtin;refine wpList_app _ rfl _ _ _ rfl w.heap.size 3 iI (.int .i64 0) 1 8 Tryz.underlying22 jI0 jI1 jI2 jI3 rfl om B ks.length d (xs.map (Value.int .i64)) rfl (OwnS.ext HB9.out (Ext.alloc _ _)) _ 1 1 [.int .i64 lo] rfl rfl (blk_cells (Blk.new _ _ _)) (by intro u hu;simp only[List.mem_cons,List.not_mem_nil,or_false] at hu;rcases hu with rfl;rfl) um om (e9.trans (Ext.alloc _ _)).size ?_;intro B10 d10 w10 ho10 hg10 hat10))
      have e10:Ext w w10:=Ext.app (e9.trans (Ext.alloc _ _)) (OwnS.ext HB9.out (Ext.alloc _ _)) hg10;have HO10:=lh (OwnS.kp (OwnS.ext HO9.out (Ext.alloc _ _)) (KpP.of_grown hg10) (fun b hb he=>own_ne HB9.out HO9.out de he hb));have HB10:=lh (show OwnS w10 w.heap.size 3 1 B10 (ks.length+1) d10 ((xs++[lo]).map (Value.int .i64)) by
       rw[List.map_append];exact ho10)
      exact Y14z1
     ·have hv0:symV runes lo=false:=by simpa using hv
      have HT1:=fun(W:World)=>lh (show Calls Tryz.prog 90 #[.slice (some ⟨W.heap.size,0,none⟩) 1 1,.bool runes] (W.alloc (.cells #[.int .i64 lo] 3)) (RetV (.int .i64 5) (W.alloc (.cells #[.int .i64 lo] 3))) by
       have h9:=(HTV lo hlo W).out;rw[if_neg hv] at h9;exact h9)
      by_cases hv2:symV runes hi2=true
      ·have HF:=HHI hv0 hv2;have HU2:=lh (show inhU runes hs (i+1)=ks++[h] by rw[hsu.out,if_pos (show inhB runes h=true from HF.out.1)]);have HX2:=lh (show(ks++[h]).map (fun z=>smpP runes z.l)=xs++[hi2] by rw[List.map_append,hxs.out];simp only[List.map_cons,List.map_nil];rw[HF.out.2]);have HKL:=lh (show(ks++[h]).length=ks.length+1 by simp);have HXL:=lh (show(xs++[hi2]).length=xs.length+1 by simp);have hxl:xs.length<=i:=by rw[HMX.out];exact hul
       clear hsu HLO HHI HNO HF;have HT2:=fun(W:World)=>lh (show Calls Tryz.prog 90 #[.slice (some ⟨W.heap.size,0,none⟩) 1 1,.bool runes] (W.alloc (.cells #[.int .i64 hi2] 3)) (RetV (.int .i64 0) (W.alloc (.cells #[.int .i64 hi2] 3))) by
        have h9:=(HTV hi2 hhi W).out;rw[if_pos hv2] at h9;exact h9)
       clear hv hv0 hv2 HTV
       go_upto_region 10 with fail
       generalize wr.alloc (.cells #[.int .i64 lo,.int .i64 hi2] 24)=wb at *
       go_upto_region 11 with fail
       refine(HT1 wb).out.mono ?_;rintro e w4 ⟨rfl,x4⟩;have p1':=x4.cell ((Ext.alloc _ _).cell p1)
       go_upto_region 13 with fail
       refine(HT2 w4).out.mono ?_;rintro e w6 ⟨rfl,x6⟩
       go_upto_region 13 with fail
       have Y6:Ext wr w6:=((xa.trans (Ext.alloc _ _)).trans x4).trans ((Ext.alloc _ _).trans x6);have X8:=x1.trans (y1.trans Y6);have HO8:=lh (OwnS.ext HO.out (y1.trans Y6));have HB8:=lh (OwnS.ext HB.out (y1.trans Y6))
       go_upto_region 14 with((at_builtin;refine wpList_app _ rfl _ _ _ rfl w.heap.size 25 i0 (.slice none 0 0) 1 24 Tryz.underlying135 hi0 hz0 hz1 hz2 rfl om O ks.length cO (flatH ks) rfl (OwnS.ext HO8.out (Ext.alloc _ _)) _ 1 1 [.slice (some ⟨sb,so,none⟩) h.l.length h.c] rfl rfl (blk_cells (Blk.new _ _ _)) (by intro u hu;simp only[List.mem_cons,List.not_mem_nil,or_false] at hu;rcases hu with rfl;rfl) um om (X8.trans (Ext.alloc _ _)).size ?_;intro O9 cO9 w9 ho9 hg9 hat9))
       have e9:Ext w w9:=Ext.app (X8.trans (Ext.alloc _ _)) (OwnS.ext HO8.out (Ext.alloc _ _)) hg9;have HB9:=lh (OwnS.kp (OwnS.ext HB8.out (Ext.alloc _ _)) (KpP.of_grown hg9) (fun b hb he=>own_ne HO8.out HB8.out de he hb));have HO9:=lh (show OwnS w9 w.heap.size 25 1 O9 (ks++[h]).length cO9 (flatH (ks++[h])) by
        rw[HKL.out];unfold flatH at ho9 ⊢;rw[List.map_append,List.map_cons,List.map_nil,hA0.out];exact ho9)
       go_wp2_with ((at_builtin;refine wpList_app _ rfl _ _ _ rfl w.heap.size 3 iI (.int .i64 0) 1 8 Tryz.underlying22 jI0 jI1 jI2 jI3 rfl om B ks.length d (xs.map (Value.int .i64)) rfl (OwnS.ext HB9.out (Ext.alloc _ _)) _ 1 1 [.int .i64 hi2] rfl rfl (blk_cells (Blk.new _ _ _)) (by intro u hu;simp only[List.mem_cons,List.not_mem_nil,or_false] at hu;rcases hu with rfl;rfl) um om (e9.trans (Ext.alloc _ _)).size ?_;intro B10 d10 w10 ho10 hg10 hat10))
       have e10:Ext w w10:=Ext.app (e9.trans (Ext.alloc _ _)) (OwnS.ext HB9.out (Ext.alloc _ _)) hg10;have HO10:=lh (OwnS.kp (OwnS.ext HO9.out (Ext.alloc _ _)) (KpP.of_grown hg10) (fun b hb he=>own_ne HB9.out HO9.out de he hb));have HB10:=lh (show OwnS w10 w.heap.size 3 1 B10 (ks.length+1) d10 ((xs++[hi2]).map (Value.int .i64)) by
        rw[List.map_append];exact ho10)
       exact Y14z1
      ·have hv20:symV runes hi2=false:=by simpa using hv2
       have HN2:=HNO hv0 hv20;have HT2:=fun(W:World)=>lh (show Calls Tryz.prog 90 #[.slice (some ⟨W.heap.size,0,none⟩) 1 1,.bool runes] (W.alloc (.cells #[.int .i64 hi2] 3)) (RetV (.int .i64 5) (W.alloc (.cells #[.int .i64 hi2] 3))) by
        have h9:=(HTV hi2 hhi W).out;rw[if_neg hv2] at h9;exact h9)
       clear hv hv0 hv2 hv20 HLO HHI HNO
       go_upto_region 10 with fail
       generalize wr.alloc (.cells #[.int .i64 lo,.int .i64 hi2] 24)=wb at *
       go_upto_region 11 with fail
       refine(HT1 wb).out.mono ?_;rintro e w4 ⟨rfl,x4⟩;have p1':=x4.cell ((Ext.alloc _ _).cell p1)
       go_upto_region 13 with fail
       refine(HT2 w4).out.mono ?_;rintro e w6 ⟨rfl,x6⟩;have Y6:Ext wr w6:=((xa.trans (Ext.alloc _ _)).trans x4).trans ((Ext.alloc _ _).trans x6)
       go_wp2_with fail
       go_roundw
       case rel=>exact⟨j+1,by go_num,om,rfl,rfl,HN2,y1.trans Y6⟩
       case measure=>simp[intOf];omega
    ·have hjI:¬(j:Int)<h.l.length:=om;obtain rfl:j=h.l.length:=om;have hno:inhB runes h=false:=by
      have h9:=HN.out;rw[List.take_length] at h9;unfold inhB;rw[List.any_eq_false];intro x hx;rw[h9 x hx];simp
     have HU2:=lh (show inhU runes hs (i+1)=ks by rw[hsu.out,if_neg (by rw[hno];simp)]);clear hsu hno
     go_wp2_with fail
     go_roundw
     case rel=>exact⟨i+1,O,cO,B,d,by go_num,om,by rw[HU2.out],by rw[HU2.out],by rw[HU2.out];exact lh (OwnS.ext HO.out y1),by rw[HU2.out,hxs.out];exact lh (OwnS.ext HB.out y1),x1.trans y1⟩
     case measure=>simp[intOf];omega
  ·have hiI:¬(i:Int)<hs.length:=om;obtain rfl:i=hs.length:=om;have HLL:=lh (LLS.of_own HO.out (fun z hz=>(HL.out.ext x1).sl z ((HUM _ z).out hz)));have HII:=lh (show IL wr B d ((inhU runes hs hs.length).map (fun z=>smpP runes z.l)) from IL.of_own (base:=w.heap.size) (e:=3) (by unfold OwnI;rw[List.length_map];exact HB.out) (fun x hx=>by
    obtain⟨z,hz,rfl⟩:=List.mem_map.1 hx;exact smp_I64 (inhU_b hz) (HL.out.sl z (inhU_mem hz)).rng))
   clear HSU HUL HUM HO HB HTV
   go_wp2_with fail
   go_ret2
   exact⟨O,cO,B,d,rfl,HLL.out,HII.out,x1⟩
end
section
open Go.RowKit
theorem infoStr:(Tryz.prog.info? 249).map (fun i=>(i.zero,i.size,i.bytes))=some (some (.agg #[.int .i64 0,.int .i64 0]),2,16):=by kernel_rfl
def trOk (p:Sp):Prop:=0<=p.1/\p.1<=1114112
def OwnStr (w:World)(base:Nat)(A:Option Addr)(c:Nat)(l:List Sp):Prop:=OwnS w base 249 2 A l.length c (flatS l)
abbrev GStr:={ s:Sp // trOk s }
instance:Inhabited GStr:=⟨⟨(0,0),by unfold trOk;simp⟩⟩
def encStr (x:GStr):List Value:=[.int .i64 x.1.1,.int .i64 x.1.2]
def cmpStr (x y:GStr):Int:=x.1.1-y.1.1
theorem ltStr (x y:GStr):Go.Proofs.ltOf cmpStr x y=decide (x.1.1<y.1.1):=by
 unfold Go.Proofs.ltOf cmpStr;rw[Bool.eq_iff_iff];simp only[decide_eq_true_eq];omega
theorem swoStr:Go.Sort.SWO (Go.Proofs.ltOf cmpStr) where
 irrefl x:=by rw[ltStr];simp
 trans x y z h1 h2:=by rw[ltStr] at *;simp at *;omega
 ntrans x y z h1 h2:=by rw[ltStr] at *;simp at *;omega
def toStr:(l:List Sp)->(∀s∈l,trOk s)->List GStr
 | [],_=>[]
 | s::l,h=>⟨s,h s si⟩::toStr l (fun t ht=>h t (by simp[ht]))
theorem toStr_val:∀(l:List Sp) (h:∀s∈l,trOk s),(toStr l h).map (·.1)=l
 | [],_=>rfl
 | s::l,h=>by rw[toStr,List.map_cons,toStr_val l]
theorem flatK_getStr (d:List GStr)(j:Nat)(hj:j<d.length*2):(Go.Sort.flatK encStr 2 d.toArray)[j]! = (flatS (d.map (·.1)))[j]'(by rw[flatS_len,List.length_map];exact hj):=by
 rw[Go.Sort.get_flatK _ _ _ _ (by simpa using hj)];have hi:j / 2<d.length:=om;have hi':j / 2<(d.map (·.1)).length:=by simpa using hi
 obtain⟨g1,g2⟩:=flatS_get (d.map (·.1)) (j / 2) hi';obtain⟨l1,e1⟩:=List.getElem?_eq_some_iff.1 g1;obtain⟨l2,e2⟩:=List.getElem?_eq_some_iff.1 g2;have hd:d.toArray[j / 2]! = d[j / 2]:=by simp[hi]
 rw[hd];rcases Nat.mod_two_eq_zero_or_one j with h0|h1
 ·have e:j=j / 2*2:=om;rw[h0];have:(flatS (d.map (·.1)))[j]'(by rw[flatS_len,List.length_map];exact hj)=.int .i64 d[j / 2].1.1:=by
   have:=e1
   simp only[<-e] at this;rw[this];simp
  rw[this];rfl
 ·have e:j=j / 2*2+1:=om;rw[h1];have:(flatS (d.map (·.1)))[j]'(by rw[flatS_len,List.length_map];exact hj)=.int .i64 d[j / 2].1.2:=by
   have:=e2
   simp only[<-e] at this;rw[this];simp
  rw[this];rfl
theorem holdsStr {w:World}{base c g:Nat}{d:List GStr}(h:OwnStr w base (some ⟨g,0,none⟩) c (d.map (·.1))):Go.Sort.HoldsK encStr 2 w g 0 d.toArray:=by
 intro j hj;rw[Go.Sort.size_flatK] at hj;have hj2:j<d.length*2:=by simpa using hj
 have hfl:j<(flatS (d.map (·.1))).length:=by rw[flatS_len,List.length_map];exact hj2
 obtain⟨g',he,_,h1,h2,_,_⟩:=OwnS.store h hfl;injection he with he;injection he with e1 _ _
 subst e1;rw[Nat.zero_add,flatK_getStr d j hj2];exact⟨h1,h2⟩
theorem sortedStr {w:World}{base c g n:Nat}{d d':List GStr}{os:Array Obj}(h:OwnStr w base (some ⟨g,0,none⟩) c (d.map (·.1)))(hl:d'.length=d.length) :
 OwnStr (Go.Proofs.sortWorldK encStr 2 w g 0 n d'.toArray os) base (some ⟨g,0,none⟩) c (d'.map (·.1))/\KpP (·=g) w (Go.Proofs.sortWorldK encStr 2 w g 0 n d'.toArray os):=by
 rcases h.form with⟨h0,_⟩|⟨g',cur,he,hg,hh,hnc,hcm,hcs,ht⟩
 ·cases h0
 ·injection he with he;injection he with e1 _ _
  subst e1;have hlt:g<w.heap.size:=(Array.getElem?_eq_some_iff.1 hh).1;have hk:KpP (·=g) w (Go.Proofs.sortWorldK encStr 2 w g 0 n d'.toArray os):=by
   refine⟨rfl,rfl,rfl,?_,fun k hk hn=>?_⟩
   ·show w.heap.size<=(Array.size (_++os))
    simp[Go.Sort.putRowK,Go.Sort.putRow,Go.Sort.mapBlock,Go.Sort.ahead]
   ·show(_++os)[k]? = _
    have hne:¬g=k:=fun e=>hn e.symm;rw[Array.getElem?_append_left (by simp[Go.Sort.putRowK,Go.Sort.putRow,Go.Sort.mapBlock,Go.Sort.ahead];exact hk)];simp[Go.Sort.putRowK,Go.Sort.putRow,Go.Sort.mapBlock,Go.Sort.ahead,Array.getElem?_modify,hne]
  refine⟨?_,hk⟩;have hb:Blk (Go.Proofs.sortWorldK encStr 2 w g 0 n d'.toArray os) g 249 (Go.Sort.putCells id 0 (Go.Sort.flatK encStr 2 d'.toArray) cur):=by
   show(_++os)[g]? = _
   rw[Array.getElem?_append_left (by simp[Go.Sort.putRowK,Go.Sort.putRow,Go.Sort.mapBlock,Go.Sort.ahead];exact hlt)];simp[Go.Sort.putRowK,Go.Sort.putRow,Go.Sort.mapBlock,Go.Sort.ahead,Array.getElem?_modify,hh,Go.Sort.onCells]
  have:=OwnS.of_blk (n:=(d'.map (·.1)).length) (c:=c) (size:=2) hb hg (by simp[Go.Sort.putCells,hcs]) (by rw[List.length_map] at hnc ⊢;omega) hcm;have e:(Go.Sort.putCells id 0 (Go.Sort.flatK encStr 2 d'.toArray) cur).toList.take ((d'.map (·.1)).length*2)=flatS (d'.map (·.1)):=by
   have hsz:d'.length*2<=cur.size:=by rw[hcs];rw[List.length_map] at hnc;omega
   refine List.ext_getElem ?_ (fun j h1 h2=>?_)
   ·rw[List.length_take,flatS_len];simp[Go.Sort.putCells];omega
   ·have hj:j<d'.length*2:=by rw[flatS_len,List.length_map] at h2;exact h2
    rw[List.getElem_take];have hjc:j<cur.size:=om;have:(Go.Sort.putCells id 0 (Go.Sort.flatK encStr 2 d'.toArray) cur)[j]'(by simpa[Go.Sort.putCells] using hjc)=(Go.Sort.flatK encStr 2 d'.toArray)[j]!:=by
     simp only[Go.Sort.putCells,Array.getElem_mapIdx,Go.Sort.size_flatK];rw[if_pos ⟨Nat.zero_le _,by simpa using hj⟩]
     rfl
    rw[Array.getElem_toList,this,flatK_getStr d' j hj]
  rw[e] at this;exact this
theorem cmpStr_any (x y:GStr)(W:World):Calls Tryz.prog 136 #[.agg #[.int .i64 x.1.1,.int .i64 x.1.2],.agg #[.int .i64 y.1.1,.int .i64 y.1.2]] W (fun e w'=>e=.returned (.int .i64 (cmpStr x y))/\∃q os',w'=Go.Sort.grow (W.drewN q) os'):=by
 obtain⟨⟨x1,x2⟩,hx⟩:=x;obtain⟨⟨y1,y2⟩,hy⟩:=y;have hx':0<=x1/\x1<=1114112:=hx;have hy':0<=y1/\y1<=1114112:=hy;have hw:IntKind.i64.wrap (x1-y1)=x1-y1:=wj;unfold cmpStr
 simp only
 go_enter Tryz.func136,Tryz.ntmps136
 go_wp2
 go_ret
 exact⟨by rw[<-hw];rfl,0,_,by rw[Go.Sort.alloc_eq_grow,Go.Sort.alloc_eq_grow,Go.Sort.grow_grow];rfl⟩
theorem sortStr_any (base g c:Nat)(l:List Sp)(hg:∀s∈l,trOk s)(w:World)(hl:OwnStr w base (some ⟨g,0,none⟩) c l)(hlen:l.length<=1000000) :
 Calls Tryz.prog 135 #[.slice (some ⟨g,0,none⟩) l.length c,.func (.func 136) #[] #[]] w (fun e w'=>e=.returned (.tuple #[])/\∃m:List Sp,l.Perm m/\m.Pairwise (fun s t=>s.1<=t.1)/\m.length=l.length/\OwnStr w' base (some ⟨g,0,none⟩) c m/\KpP (·=g) w w'):=by
 obtain⟨d,hd⟩:∃d:List GStr,d.map (·.1)=l:=⟨toStr l hg,toStr_val l hg⟩;subst hd;have eg:∀args w,(callFunc 136 args).run Tryz.prog w=.ok (.enter 136 args) w:=enters_of Tryz.func136 kr rfl;have hcmp:Go.Proofs.CmpLays Tryz.prog 136 #[] encStr 2 cmpStr g 0 d.toArray.size w:=fun _ _ _ _ x y=>cmpStr_any x y _;have hcon:=AnyQ.slices_SortFunc Tryz.sortStretch 2 Tryz.isAgg249 Tryz.sizeOf249 encStr (fun _=>rfl) (fun x v hv=>by simp[encStr] at hv;rcases hv with rfl|rfl<;>rfl) cmpStr swoStr 136 #[] g 0 c d.toArray w eg hcmp (holdsStr hl) ((OwnS.blt hl rfl).1) (by rw[List.length_map] at hlen;simp;omega);change Calls Tryz.prog 135 _ _ _ at hcon;have hsz:d.toArray.size=(d.map (·.1)).length:=by simp
 rw[hsz] at hcon;refine hcon.mono ?_;rintro e w' ⟨rfl,d',n,os,hp,hs,rfl⟩;have hps:=hp.1;rw[List.size_toArray] at hps;obtain⟨d2,rfl⟩:∃d2:List GStr,d'=d2.toArray:=⟨d'.toList,by simp⟩;replace hps:d2.length=d.length:=by simpa using hps
 have hperm:d2.Perm d:=by
  have:=hp.2.2;rw[List.length_map] at this;have h4:d2.Perm (d.take d2.length):=by simpa[<-hps] using this
  rw[List.take_of_length_le om] at h4;exact h4
 obtain⟨h1,h2⟩:=sortedStr (d':=d2) (n:=n) (os:=os) hl hps;refine⟨rfl,d2.map (·.1),(hperm.symm).map _,?_,by simp[hps],h1,h2⟩;rw[List.pairwise_map,List.pairwise_iff_getElem];intro i j hi hj hij;have h3:=hs i j (Nat.zero_le _) hij (by simp;omega);rw[ltStr] at h3;have e1:d2.toArray[j]! = d2[j]:=by simp[hj]
 have e2:d2.toArray[i]! = d2[i]:=by simp[hi]
 rw[e1,e2] at h3;simp at h3;exact h3
def strA (ls:List (List Sp)):Nat->List Sp
 | 0=>[]
 | i+1=>strA ls i++(ls.getD i []).map (fun s=>(s.1,(i:Int)))
theorem strs_snoc (l:List (List Sp))(x:List Sp):strs (l++[x])=strs l++x.map (fun s=>(s.1,l.length)):=by
 unfold strs;rw[List.zipIdx_append,List.flatMap_append]
 simp
theorem strA_strs (ls:List (List Sp)):∀i,i<=ls.length->(strA ls i).map (fun p=>(p.1,p.2.toNat))=strs (ls.take i)
 | 0,_=>rfl
 | i+1,h=>by
  have hi:i<ls.length:=om;rw[strA,List.map_append,strA_strs ls i om,List.take_add_one,List.getElem?_eq_getElem hi,Option.toList_some,strs_snoc]
  congr 1
  have hg:ls.getD i []=ls[i]:=by simp[List.getD_eq_getElem?_getD,hi]
  rw[hg,List.map_map,List.length_take];refine List.map_congr_left (fun s _=>?_);have:min i ls.length=i:=om;simp[this]
theorem strA_ok {ls:List (List Sp)}(h:∀l∈ls,∀s∈l,0<=s.1/\s.1<=1114111):∀i,∀s∈strA ls i,trOk s
 | 0,s,hs=>by simp[strA] at hs
 | i+1,s,hs=>by
  rw[strA] at hs;rcases List.mem_append.1 hs with hs|hs
  ·exact strA_ok h i s hs
  ·obtain⟨x,hx,rfl⟩:=List.mem_map.1 hs;have hm:ls.getD i []∈ls\/ls.getD i []=[]:=by
    rcases Nat.lt_or_ge i ls.length with hi|hi
    ·left;simp[List.getD_eq_getElem?_getD,hi]
    ·right;simp[List.getD_eq_getElem?_getD,hi]
   rcases hm with hm|hm
   ·have:=h _ hm x hx;unfold trOk;simp only;omega
   ·rw[hm] at hx;simp at hx
theorem strA_len {ls:List (List Sp)}{n:Nat}(h:∀l∈ls,l.length<=n):∀i,(strA ls i).length<=i*n
 | 0=>by simp[strA]
 | i+1=>by
  have ih:=strA_len h i;have hm:(ls.getD i []).length<=n:=by
   rcases Nat.lt_or_ge i ls.length with hi|hi
   ·have:ls.getD i []=ls[i]:=by simp[List.getD_eq_getElem?_getD,hi]
    rw[this];exact h _ (List.getElem_mem hi)
   ·have:ls.getD i []=[]:=by simp[List.getD_eq_getElem?_getD,hi]
    rw[this];simp
  rw[strA,List.length_append,List.length_map,Nat.add_mul];omega
theorem cls_at {kept:List (List Sp)}(hle:∀c∈kept,∀s∈c,s.1<=s.2)(hdis:∀x k k' (hk:k<kept.length) (hk':k'<kept.length),has kept[k] x=true->has kept[k'] x=true->k=k')
 {m:List Sp} (hp:(strA kept kept.length).Perm m) (hs:m.Pairwise (fun a b=>a.1<=b.1)) (hnn:∀p∈m,0<=p.2) {x:Int} {k:Nat} (hk:k<kept.length) (hx:has kept[k] x=true):ClsAt m x k:=by
 intro i hi h1 h2;have hp2:(strs kept).Perm (m.map (fun p=>(p.1,p.2.toNat))):=by
  have h3:=hp.map (fun p:Sp=>(p.1,p.2.toNat));rw[strA_strs _ _ (Nat.le_refl _),List.take_length] at h3;exact h3
 have hs2:(m.map (fun p:Sp=>(p.1,p.2.toNat))).Pairwise (fun a b=>a.1<=b.1):=by
  rw[List.pairwise_map];exact hs
 obtain⟨h0,h3,h4⟩:=stretch_law hle hdis hp2 hs2 hk hx (i:=i) (by simpa using hi) (fun j hj hji=>by simpa using h1 j (by simpa using hj) hji) (fun hj=>by simpa using h2 (by simpa using hj));have h0':i-1<m.length:=by simpa using h0
 refine⟨h0',h3,?_⟩;have h5:m[i-1].2.toNat=k:=by simpa using h4
 have h6:=hnn _ (List.getElem_mem h0');omega
theorem strA_nn {ls:List (List Sp)}:∀i,∀s∈strA ls i,0<=s.2
 | 0,s,hs=>by simp[strA] at hs
 | i+1,s,hs=>by
  rw[strA] at hs;rcases List.mem_append.1 hs with hs|hs
  ·exact strA_nn i s hs
  ·obtain⟨x,hx,rfl⟩:=List.mem_map.1 hs
   simp
end
section
open Go.RowKit
attribute [local go_sem ↓] Go.wp_at_zero Go.wp_at_succ
def RetStr (ls:List (List Sp))(w:World)(e:Ending)(w':World):Prop:=∃(A:Option Addr) (c:Nat) (m:List Sp),e=.returned (.slice A m.length c)/\SL w' A c m/\(strA ls ls.length).Perm m/\m.Pairwise (fun s t=>s.1<=t.1)/\Ext w w'
def strB (ls:List (List Sp))(i j:Nat):List Sp:=strA ls i++((ls.getD i []).take j).map (fun s=>(s.1,(i:Int)))
theorem strA_hi {ls:List (List Sp)}:∀i,∀s∈strA ls i,s.2<i
 | 0,s,hs=>by simp[strA] at hs
 | i+1,s,hs=>by
  rw[strA] at hs;rcases List.mem_append.1 hs with hs|hs
  ·have:=strA_hi i s hs;omega
  ·obtain⟨x,hx,rfl⟩:=List.mem_map.1 hs
   simp only;omega
theorem strB_zero (ls:List (List Sp))(i:Nat):strB ls i 0=strA ls i:=by simp[strB]
theorem strB_all (ls:List (List Sp))(i:Nat){l:List Sp}(h:ls.getD i []=l):strB ls i l.length=strA ls (i+1):=by
 unfold strB;rw[h,List.take_length,strA,h]
theorem strB_succ (ls:List (List Sp))(i:Nat){l:List Sp}(h:ls.getD i []=l){j:Nat}(hj:j<l.length):strB ls i (j+1)=strB ls i j++[(l[j].1,(i:Int))]:=by
 unfold strB;rw[h,List.take_add_one,List.getElem?_eq_getElem hj,List.map_append,<-List.append_assoc]
 rfl
theorem stretches_any (A:Option Addr)(c:Nat)(hs:List Hs)(w:World)(hl:LLS w A c hs)(hg:∀l∈hs.map (·.l),∀s∈l,0<=s.1/\s.1<=1114111)(hn:hs.length<=1000)(hlen:∀l∈hs.map (·.l),l.length<=1000)(hne:strA (hs.map (·.l)) hs.length≠[]) :
 Calls Tryz.prog 71 #[.slice A hs.length c] w (RetStr (hs.map (·.l)) w):=by
 obtain⟨iS,jS0,jS1,jS2,jS3⟩:=info_parts infoStr;have hcap:=hl.len;have HL:=lh hl;have HLN:=fun i (hi:i<=hs.length)=>(show(strA (hs.map (·.l)) i).length<=1000000 by
  have h1:=strA_len hlen i;have:i*1000<=1000*1000:=Nat.mul_le_mul_right _ om;omega)
 have HGD:=fun i (hi:i<hs.length)=>lh (show(hs.map (·.l)).getD i []=hs[i].l by simp[List.getD_eq_getElem?_getD,hi]);have HOK:=lh (strA_ok hg hs.length);have HNE:=lh hne;obtain⟨LS,hLS⟩:∃LS,Hid (hs.map (·.l)=LS):=⟨_,lh rfl⟩;have HLL:Hid (LS.length=hs.length):=lh (by rw[<-hLS.out];simp);rw[hLS.out] at HLN HGD HOK HNE ⊢;clear hl hg hlen hne;go_enter Tryz.func71,Tryz.ntmps71
 go_upto_region 3 with fail
 go_loopw [3,10] (fun v3 v10 wr=>∃(i:Nat) (B:Option Addr) (d:Nat),v10=.int .i64 i/\i<=hs.length/\v3=.slice B (strA LS i).length d/\Hid (OwnStr wr w.heap.size B d (strA LS i))/\Ext w wr) (fun _ v _=>hs.length-(intOf v).toNat)
 case atStart=>exact⟨0,none,0,rfl,om,rfl,lh (OwnS.nil _ _ _ _),Ext.rfl' _⟩
 case round=>
  obtain⟨i,B,d,rfl,hi,rfl,HB,x1⟩:=hrel;by_cases hlt:i<hs.length
  ·have hiI:(i:Int)<hs.length:=om;have HLr:=lh (HL.out.ext x1);obtain⟨rb,ro,hA,cr⟩:=HLr.out.get hlt;have hA':=hA;subst hA';have HSi:=lh (HL.out.sl _ (List.getElem_mem hlt));have hgd:=HGD i hlt;have hl1:=HLN (i+1) om;obtain⟨h,hh⟩:∃h,Hid (hs[i]=h):=⟨_,lh rfl⟩;rw[hh.out] at cr HSi hgd;obtain⟨A0,hA0⟩:∃A0,Hid (h.A=A0):=⟨_,lh rfl⟩;rw[hA0.out] at cr HSi;have hcl:=HSi.out.len;have HB0:Hid (OwnStr wr w.heap.size B d (strB LS i 0)):=lh (by rw[strB_zero];exact HB.out);have HST:=fun j (hj:j<h.l.length)=>lh (strB_succ LS i hgd.out hj);have HAL:=lh (strB_all LS i hgd.out)
   rw[<-strB_zero LS i];have hlj:∀j,j<=h.l.length->(strB LS i j).length<=1000000:=fun j hj=>by
    rw[<-HAL.out] at hl1;have h5:(strB LS i j).length<=(strB LS i h.l.length).length:=by
     unfold strB;rw[hgd.out];simp only[List.length_append,List.length_map,List.length_take];omega
    omega
   clear hl1 hgd HB
   go_upto_region 6 with fail
   clear cr
   go_loopw [3,17] (fun v3 v17 wr=>∃(j:Nat) (B:Option Addr) (d:Nat),v17=.int .i64 j/\j<=h.l.length/\v3=.slice B (strB LS i j).length d/\Hid (OwnStr wr w.heap.size B d (strB LS i j))/\Ext w wr) (fun _ v _=>h.l.length-(intOf v).toNat)
   case atStart=>exact⟨0,B,d,rfl,om,rfl,HB0,x1⟩
   case round=>
    obtain⟨j,B,d,rfl,hj,rfl,HB,y1⟩:=hrel;by_cases hlt2:j<h.l.length
    ·have hjI:(j:Int)<h.l.length:=om;obtain⟨sb,so,rfl,g1,g2⟩:=(HSi.out.ext y1).get hlt2;have hst:=HST j hlt2;have hlu:=hlj j hj;generalize h.l[j]=s at *;obtain⟨lo,hi2⟩:=s
     simp only at g1 g2 hst
     obtain⟨U,hU⟩:∃U,U=strB LS i j:=⟨_,rfl⟩
     rw[<-hU] at HB hst hlu ⊢;clear hU;obtain⟨b1,xa⟩:=alloc1 wr 24 #[.int .i64 lo,.int .i64 hi2];obtain⟨p0,p1,_,_,pz⟩:=b1.c2;have X8:=y1.trans xa;have HO8:=lh (OwnS.ext HB.out xa);have HU3:=lh (show(U++[(lo,(i:Int))]).length=U.length+1 by simp)
     go_upto_region 8 with fail
     generalize wr.alloc (.cells #[.int .i64 lo,.int .i64 hi2] 24)=wb at *
     go_wp2_with ((at_builtin;refine wpList_app _ rfl _ _ _ rfl w.heap.size 249 iS (.agg #[.int .i64 0,.int .i64 0]) 2 16 Tryz.underlying141 jS0 jS1 jS2 jS3 rfl om B U.length d (flatS U) rfl (OwnS.ext HO8.out (Ext.alloc _ _)) _ 1 1 [.int .i64 lo,.int .i64 i] rfl rfl (blk_cells (Blk.new _ _ _)) (by intro u hu;simp only[List.mem_cons,List.not_mem_nil,or_false] at hu;rcases hu with rfl|rfl<;>rfl) um om (X8.trans (Ext.alloc _ _)).size ?_;intro B8 d8 w8 ho8 hg8 hat8))
     have e8:Ext w w8:=Ext.app (X8.trans (Ext.alloc _ _)) (OwnS.ext HO8.out (Ext.alloc _ _)) hg8;have HB8:=lh (show OwnStr w8 w.heap.size B8 d8 (U++[(lo,(i:Int))]) by
      unfold OwnStr;rw[HU3.out,flatS_append];exact ho8)
     go_roundw
     case rel=>exact⟨j+1,B8,d8,by go_num,om,by rw[hst.out,HU3.out],by rw[hst.out];exact HB8,e8⟩
     case measure=>simp[intOf];omega
    ·have hjI:¬(j:Int)<h.l.length:=om;obtain rfl:j=h.l.length:=om
     go_wp2_with fail
     go_roundw
     case rel=>exact⟨i+1,B,d,by go_num,om,by rw[<-HAL.out],by rw[<-HAL.out];exact HB,y1⟩
     case measure=>simp[intOf];omega
  ·have hiI:¬(i:Int)<hs.length:=om;obtain rfl:i=hs.length:=om;have hB:∃g,B=some ⟨g,0,none⟩/\w.heap.size<=g:=by
    rcases OwnS.form HB.out with⟨_,_,_,h0⟩|⟨g,cur,hB,hg,_⟩
    ·exfalso
     have h1:=flatS_len (strA LS hs.length);rw[h0] at h1;simp only[List.length_nil] at h1;exact HNE.out (List.length_eq_zero_iff.1 om)
    ·exact⟨g,hB,hg⟩
   obtain⟨g,rfl,hgb⟩:=hB;have HSRT:=lh (sortStr_any w.heap.size g d (strA LS hs.length) HOK.out wr HB.out (HLN _ (Nat.le_refl _)));have HHI:=lh (fun s hs'=>strA_hi (ls:=LS) hs.length s hs');have HNN:=lh (fun s hs'=>strA_nn (ls:=LS) hs.length s hs');obtain⟨U,hU⟩:∃U,Hid (strA LS hs.length=U):=⟨_,lh rfl⟩;rw[hU.out] at HSRT HHI HNN HOK ⊢;clear HB HNE HLN HGD
   go_upto_region 12 with fail
   refine HSRT.out.mono ?_;rintro e w2 ⟨rfl,m,hp,hs2,hml,hown,hkp⟩;have HP:=lh hp;have HM:=lh hml;have HS2:=lh hs2;clear hp hml hs2 HSRT
   go_wp2_with fail
   go_ret
   refine⟨some ⟨g,0,none⟩,d,m,by rw[HM.out];rfl,SL.of_ownT hown (fun s hs'=>?_),by rw[HLL.out,hU.out];exact HP.out,HS2.out,x1.thenQ hkp hgb⟩;have h1:=HP.out.mem_iff.2 hs';have h2:=HHI.out s h1;have h3:=HNN.out s h1;have h4:=HOK.out s h1;unfold trOk at h4;unfold S64 I64;omega
structure Kb where
 A:Option Addr
 c:Nat
 l:List Bool
def cellB (r:Kb):Value:=.slice r.A r.l.length r.c
def rowsC (rows:List Kb):Array Value:=(rows.map cellB).toArray
theorem rowsC_set (rows:List Kb)(i:Nat)(r:Kb):(rowsC rows).setIfInBounds i (cellB r)=rowsC (rows.set i r):=by simp[rowsC,List.map_set]
def nilB:Kb:=⟨none,0,[]⟩
theorem Blk.cellR {w:World}{g T:Nat}{rows:List Kb}(h:Blk w g T (rowsC rows)){i:Nat}(hi:i<rows.length):w.cell? ⟨g,i,none⟩=some (cellB rows[i]):=by
 rw[h.cell];simp[rowsC,hi]
def bInts (l:List Bool):Array Value:=(l.map Value.bool).toArray
theorem bInts_set (l:List Bool)(i:Nat)(x:Bool):(bInts l).setIfInBounds i (.bool x)=bInts (l.set i x):=by simp[bInts,List.map_set]
def upB (f:Nat->Bool)(i n:Nat):List Bool:=(List.range n).map (fun j=>if j<i then f j else false)
theorem upB_len (f:Nat->Bool)(i n:Nat):(upB f i n).length=n:=by simp[upB]
theorem upB_zero (f:Nat->Bool)(n:Nat):upB f 0 n=List.replicate n false:=by
 apply List.ext_getElem
 ·simp[upB]
 ·intro j h1 h2;simp[upB]
theorem upB_set (f:Nat->Bool)(i n:Nat):(upB f i n).set i (f i)=upB f (i+1) n:=by
 apply List.ext_getElem
 ·simp[upB]
 ·intro j h1 h2;rw[List.getElem_set];simp only[upB,List.getElem_map,List.getElem_range];by_cases h:i=j
  ·subst h;simp
  ·rw[if_neg h];by_cases h3:j<i
   ·rw[if_pos h3,if_pos om]
   ·rw[if_neg h3,if_neg om]
theorem IB.of_blkB {w:World}{g T:Nat}{l:List Bool}(h:Blk w g T (bInts l))(hm:l.length<=maxLen):IB w (some ⟨g,0,none⟩) l.length l:=
 ⟨Nat.le_refl _,hm,fun _=>⟨g,0,rfl,fun i hi=>by rw[h.cell];simp[bInts,hi]⟩⟩
theorem infoBS:(Tryz.prog.info? 81).map (fun i=>(i.zero,i.size,i.bytes))=some (some (.slice none 0 0),1,24):=by kernel_rfl
theorem mkRows (n:Nat)(h:n<=1000000)(W:World):(Instr.makeSlice 148 (.int .i64 (n:Int)) (.int .i64 (n:Int))).run Tryz.prog W=.ok (.slice (some ⟨W.heap.size,0,none⟩) n n) (W.alloc (.cells (Array.replicate n (.slice none 0 0)) 81)):=by
 obtain⟨i0,hi0,hz0,hz1,hz2⟩:=info_parts infoBS;have:=run_make (P:=Tryz.prog) W 148 81 i0 (.slice none 0 0) Tryz.underlying148 hi0 hz0 .i64 .i64 n n om (Int.le_refl _) (by rw[hz2];omega) om;rw[this,hz1];simp only[Int.toNat_natCast,Value.cells];rw[madeCells_one]
 simp
theorem mkBoolsA (n:Nat)(h:n<=1000000)(W:World):(Instr.makeSlice 81 (.int .i64 (n:Int)) (.int .i64 (n:Int))).run Tryz.prog W=.ok (.slice (some ⟨W.heap.size,0,none⟩) n n) (W.alloc (.cells (bInts (List.replicate n false)) 4)):=mkBools n h W
def hasF (cs:List Int)(l:List Sp)(k:Nat):Bool:=has l (cs.getD k 0)
def TyB (w:World)(A:Option Addr):Prop:=∀b,A.map (·.block)=some b->∃cur,w.heap[b]? = some (.cells cur 4 (0,0))
theorem TyB.kp {w w':World}{A:Option Addr}{p:Nat->Prop}(h:TyB w A)(k:KpP p w w')(hp:∀b,p b->∀cur,w.heap[b]?≠some (.cells cur 4 (0,0))):TyB w' A:=fun b hb=>by
 obtain⟨cur,hh⟩:=h b hb;exact⟨cur,(k.block b (Array.getElem?_eq_some_iff.1 hh).1 (fun hq=>hp b hq cur hh)).trans hh⟩
theorem TyB.ext {w w':World}{A:Option Addr}(h:TyB w A)(x:Ext w w'):TyB w' A:=fun b hb=>by
 obtain⟨cur,hh⟩:=h b hb;exact⟨cur,(x.block b (Array.getElem?_eq_some_iff.1 hh).1).trans hh⟩
theorem IB.kpT {w w':World}{A:Option Addr}{c:Nat}{xs:List Bool}{p:Nat->Prop}(h:IB w A c xs)(t:TyB w A)(k:KpP p w w')(hp:∀b,p b->∀cur,w.heap[b]?≠some (.cells cur 4 (0,0))):IB w' A c xs:=by
 refine⟨h.le,h.cap,fun hn=>?_⟩;obtain⟨b,o,rfl,hc⟩:=h.at_ hn;refine⟨b,o,rfl,fun i hi=>?_⟩;obtain⟨cur,hh⟩:=t b rfl;rw[World.cell?_of_block (w:=w) (k.block b (World.block_lt_of_cell? _ _ (hc i hi)) (fun hq=>hp b hq cur hh))];exact hc i hi
structure RowsOk (wr:World)(hs:List Hin)(cs:List Int)(i:Nat)(rows:List Kb):Prop where
 len:rows.length=hs.length
 val:∀k (hk:k<hs.length) (hk2:k<rows.length),k<i->rows[k].l=if hs[k].op=1 then upB (hasF cs hs[k].l) cs.length cs.length else[]
 ib:∀k (hk2:k<rows.length),k<i->IB wr rows[k].A rows[k].c rows[k].l
 ty:∀k (hk2:k<rows.length),k<i->TyB wr rows[k].A
 nil:∀k (hk2:k<rows.length),i<=k->rows[k]=nilB
theorem Kp.p3 {L:List Nat}{a b:World}(h:Kp L a b):KpP (·∈L) a b:=⟨h.os,h.tape,h.output,h.size,h.block⟩
theorem IB.kpR {w w':World}{A:Option Addr}{c gH T:Nat}{bs:List Bool}{rows:List Kb}(h:IB w A c bs)(hH:Blk w gH T (rowsC rows))(k:Kp [gH] w w'):IB w' A c bs:=by
 refine⟨h.le,h.cap,fun hn=>?_⟩;obtain⟨b,o,rfl,hc⟩:=h.at_ hn;refine⟨b,o,rfl,fun i hi=>k.cell (hc i hi) ?_⟩;simp only[List.mem_singleton];rintro rfl;have h1:=hc i hi;rw[hH.cell] at h1;simp only[rowsC,List.getElem?_toArray,List.getElem?_map,Option.map_eq_some_iff] at h1;obtain⟨r,_,h2⟩:=h1;unfold cellB at h2;cases h2
def gbCells (gA:Option Addr)(gn gc:Nat)(H:Value)(M:Value)(mark:Int)(mp:Value)(L:Value):Array Value:=#[.slice gA gn gc,H,M,.int .i64 mark,mp,L]
def RetBs (gb:Nat)(gA:Option Addr)(gc:Nat)(hs:List Hin)(cs:List Int)(M:Value)(mark:Int)(mp L:Value)(w:World)(e:Ending)(w':World):Prop:=
 ∃(gH:Nat) (rows:List Kb),e=.returned (.tuple #[])/\Blk w' gb 150 (gbCells gA hs.length gc (.slice (some ⟨gH,0,none⟩) hs.length hs.length) M mark mp L)/\Blk w' gH 81 (rowsC rows)/\RowsOk w' hs cs hs.length rows/\w.heap.size<=gH/\KpP (·=gb) w w'
theorem bsort_any (w0 w:World)(hx0:Ext w0 w)(gb:Nat)(hgb:w0.heap.size<=gb)(gA:Option Addr)(gc:Nat)(hs:List Hin)(hP:PL w0 gA gc hs)(hn:hs.length<=10000)(C:Option Addr)(cc:Nat)(cs:List Int)(hC:IL w0 C cc cs)(hcs:cs.length<=10000)(H0 M:Value)(mark:Int)(mp L:Value)
 (hb:Blk w gb 150 (gbCells gA hs.length gc H0 M mark mp L)) :
 Calls Tryz.prog 72 #[.pointer (some ⟨gb,0,none⟩),.slice C cs.length cc] w (RetBs gb gA gc hs cs M mark mp L w):=by
 have hgl:=hP.len;have hcl:=hC.len;have HP:=lh hP;have HC:=lh hC;have HX:=lh hx0;have hmk:=mkRows hs.length om;have hmb:=mkBoolsA cs.length om;have q0:w.cell? ⟨gb,0,none⟩=some (.slice gA hs.length gc):=hb.cell 0;have q1:w.cell? ⟨gb,1,none⟩=some H0:=hb.cell 1;have f1:=hb.frz 1;have hgbl:=hb.lt;clear hP hC hx0;go_enter Tryz.func72,Tryz.ntmps72
 go_upto_region 1 with fail
 have B1:=hb.set 1 (.slice (some ⟨w.heap.size,0,none⟩) hs.length hs.length);have K1:KpP (·=gb) w (w.setCell ⟨gb,1,none⟩ (.slice (some ⟨w.heap.size,0,none⟩) hs.length hs.length)):=KpP.set (p:=(·=gb)) (x:=⟨gb,1,none⟩) (KpP.refl _ _) (.inl rfl) _;have hsz:(w.setCell ⟨gb,1,none⟩ (.slice (some ⟨w.heap.size,0,none⟩) hs.length hs.length)).heap.size=w.heap.size:=by simp[World.setCell]
 obtain⟨gH,hgH⟩:∃gH,gH=w.heap.size:=⟨_,rfl⟩;have hbn:gb≠gH:=om
 rw[<-hgH] at B1 K1 hsz ⊢;generalize w.setCell ⟨gb,1,none⟩ (.slice (some ⟨gH,0,none⟩) hs.length hs.length)=wa at *;have BH:=Blk.new wa 81 (Array.replicate hs.length (.slice none 0 0));have EH:=Ext.alloc wa (.cells (Array.replicate hs.length (.slice none 0 0)) 81);rw[hsz] at BH;generalize wa.alloc (.cells (Array.replicate hs.length (.slice none 0 0)) 81)=wb at *;have BH1:Blk wb gH 81 (rowsC (List.replicate hs.length nilB)):=by simpa[rowsC,cellB,nilB] using BH
 replace K1:KpP (·=gb) w wb:=KpP.trans K1 (KpP.of_ext EH);have HB0:Hid (Blk wb gb 150 (gbCells gA hs.length gc (.slice (some ⟨gH,0,none⟩) hs.length hs.length) M mark mp L)):=lh (by simpa[gbCells] using B1.ext EH);have HGH:=lh hgH;have HR0:Hid (RowsOk wb hs cs 0 (List.replicate hs.length nilB)):=lh ⟨by simp,fun k _ _ h=>absurd h (Nat.not_lt_zero _),fun k _ h=>absurd h (Nat.not_lt_zero _),fun k _ h=>absurd h (Nat.not_lt_zero _),fun k hk _=>by simp⟩;have hq0:wb.cell? ⟨gb,0,none⟩=some (.slice gA hs.length gc):=HB0.out.cell 0;clear hb q0 q1 f1 BH EH B1 hgH hmk hsz
 go_upto_region 2 with fail
 clear hq0
 go_loopw [22] (fun v wr=>∃(i:Nat) (rows:List Kb),v=.int .i64 i/\i<=hs.length/\Hid (Blk wr gb 150 (gbCells gA hs.length gc (.slice (some ⟨gH,0,none⟩) hs.length hs.length) M mark mp L))/\Hid (Blk wr gH 81 (rowsC rows))/\Hid (RowsOk wr hs cs i rows)/\Hid (KpP (·=gb) w wr)) (fun v _=>hs.length-(intOf v).toNat)
 case atStart=>exact⟨0,_,rfl,om,HB0,lh BH1,HR0,lh K1⟩
 case round=>
  obtain⟨i,rows,rfl,hi,HB,HH,HR,HK⟩:=hrel;have X0:Ext w0 wr:=HX.out.thenP HK.out (fun k hk=>by have e:k=gb:=hk;omega);by_cases hlt:i<hs.length
  ·have hiI:(i:Int)<hs.length:=om;obtain⟨pb,po,hgA,c0,c1,c2,c3,c4⟩:=(HP.out.ext X0).get hlt;have hgA':=hgA;subst hgA';have hSL:=lh (HP.out.sl _ (List.getElem_mem hlt));obtain⟨h,hh⟩:∃h,Hid (hs[i]=h):=⟨_,lh rfl⟩;rw[hh.out] at c0 c1 c2 c3 c4 hSL;have hll:=hSL.out.len;have BX:=Blk.new wr 133 #[.int .i64 h.op,.int .i64 h.x,.int .i64 h.y,.int .i64 h.n,.slice h.A h.l.length h.c];have EX:=Ext.alloc wr (.cells #[.int .i64 h.op,.int .i64 h.x,.int .i64 h.y,.int .i64 h.n,.slice h.A h.l.length h.c] 133)
   go_upto_region 4 with fail
   generalize wr.alloc (.cells #[.int .i64 h.op,.int .i64 h.x,.int .i64 h.y,.int .i64 h.n,.slice h.A h.l.length h.c] 133)=wx at *;have z0:wx.cell? ⟨wr.heap.size,0,none⟩=some (.int .i64 h.op):=BX.cell 0;have z4:wx.cell? ⟨wr.heap.size,4,none⟩=some (.slice h.A h.l.length h.c):=BX.cell 4;have HBx:=lh (HB.out.ext EX);have HHx:=lh (HH.out.ext EX);have HKx:=lh (KpP.trans HK.out (KpP.of_ext EX));have hrl:=HR.out.len;by_cases hop:h.op=1
   ·rw[hop] at z0;have e1:wx.cell? ⟨gb,1,none⟩=some (.slice (some ⟨gH,0,none⟩) hs.length hs.length):=HBx.out.cell 1;have je1:=fun(w':World) (h:Kp [gH] wx w')=>h.cell e1 (by simpa using hbn);have hgHw:w.heap.size<=gH:=by rw[HGH.out];exact Nat.le_refl _
    have hgHl:gH<wr.heap.size:=HH.out.lt;have hgbl2:gb<wr.heap.size:=HB.out.lt;obtain⟨gx,hgx⟩:∃gx,gx=wr.heap.size:=⟨_,rfl⟩
    rw[<-hgx] at z0 z4 BX hgHl hgbl2 ⊢;have hxl:=BX.lt;clear hgx
    go_upto_region 5 with fail
    refine Xr.start [gH] kr ?_;refine Xtk 0 ?_
    iterate 6(refine Xtn ?_)
    refine Xcl 7 fun w3 hE3 hK3 K hKK=>?_;go_simp;have BR:=Blk.new w3 4 (bInts (List.replicate cs.length false));have ER:=Ext.alloc w3 (.cells (bInts (List.replicate cs.length false)) 4);obtain⟨gR,hgR⟩:∃gR,gR=w3.heap.size:=⟨_,rfl⟩;refine hKK _ _ ER ?_;clear hKK
    rw[<-hgR] at BR ⊢;have hgRx:wx.heap.size<=gR:=by rw[hgR];exact hE3.size
    have hRH:gR≠gH:=by have:=EX.size;omega
    have hRb:gR≠gb:=by have:=EX.size;omega
    have hRx:gR≠gx:=om;clear hgR;refine ptm ?_;refine Xtk 8 ?_;generalize w3.alloc (.cells (bInts (List.replicate cs.length false)) 4)=wz at *;refine Xsp 9 fun w4 hE4 hK4 K hKK=>?_;have H4:=HHx.out.ext ((hE3.trans ER).trans hE4);have c4x:=H4.cellR (i:=i) (by rw[hrl];exact hlt);have f4x:=H4.frz i;go_simp;refine hKK _ _ (WI_setL (WI_refl _ _ _) List.mem_cons_self _ _) (hK4.setL List.mem_cons_self _ _) ?_;clear hKK;refine ptm ?_;refine Xdn fun w5 hE5 hK5=>?_;obtain⟨r0,hr0⟩:∃r0:Kb,r0=⟨some ⟨gR,0,none⟩,cs.length,upB (hasF cs h.l) cs.length cs.length⟩:=⟨_,rfl⟩;have hcr:cellB r0=.slice (some ⟨gR,0,none⟩) cs.length cs.length:=by rw[hr0];unfold cellB;simp only[upB_len]
    have H5:=(H4.set i (.slice (some ⟨gR,0,none⟩) cs.length cs.length)).ext hE5
    rw[<-hcr,rowsC_set] at H5;have R5:Blk w5 gR 4 (bInts (upB (hasF cs h.l) 0 cs.length)):=by
     rw[upB_zero];exact((BR.ext hE4).far (p:=⟨gH,i,none⟩) hRH _).ext hE5
    have HH5:=lh H5;have HR5:=lh R5;have HCR:=lh hcr;have HR0':=lh hr0;clear H4 c4x f4x H5 R5 BR hE3 hK3 ER hE4 hK4 hE5 je1 hcr hr0
    go_upto_region 7 with fail
    go_loopw [41] (fun v wr=>∃k:Nat,v=.int .i64 k/\k<=cs.length/\Hid (Blk wr gH 81 (rowsC (rows.set i r0)))/\Hid (Blk wr gR 4 (bInts (upB (hasF cs h.l) k cs.length)))/\Kp [gH] wx wr) (fun v _=>cs.length-(intOf v).toNat)
    case atStart=>exact⟨0,rfl,om,HH5,HR5,hK5⟩
    case round=>
     obtain⟨k,rfl,hk,HHr,HRr,HKr⟩:=hrel;have HKw:=lh (KpP.thenKp HKx.out HKr (fun i hi=>by
      have e:i=gH:=by simpa using hi
      right;omega))
     have Xr0:Ext w0 wr:=HX.out.thenP HKw.out (fun k hk=>by have e:k=gb:=hk;omega);by_cases hlt2:k<cs.length
     ·have hkI:(k:Int)<cs.length:=om;obtain⟨cb,co,hCA,ck⟩:=(HC.out.ext Xr0).get hlt2;have hCA':=hCA;subst hCA';have hbr:wr.cell? ⟨gb,1,none⟩=some (.slice (some ⟨gH,0,none⟩) hs.length hs.length):=HKr.cell e1 (by simpa using hbn);have hxr:wr.cell? ⟨gx,4,none⟩=some (.slice h.A h.l.length h.c):=HKr.cell z4 (by simp;omega);have hir:=HHr.out.cellR (i:=i) (by rw[List.length_set,hrl];exact hlt);have hget:(rows.set i r0)[i]'(by rw[List.length_set,hrl];exact hlt)=r0:=by simp
      rw[hget,HCR.out] at hir;have HV:=lh (show hasF cs h.l k=has h.l cs[k] by simp[hasF,List.getD_eq_getElem?_getD,hlt2]);have HS:=fun(w':World) (x:Ext wr w')=>lh (sHas_any h.A h.c h.l cs[k] w' (hSL.out.ext (Xr0.trans x)));generalize cs[k]=x at *;generalize has h.l x=bv at *;have j1:=fun(w':World) (h:Kp [gR] wr w')=>h.cell hbr (by simpa using hRb.symm);have j2:=fun(w':World) (h:Kp [gR] wr w')=>h.cell hxr (by simpa using hRx.symm);have j3:=fun(w':World) (h:Kp [gR] wr w')=>h.cell hir (by simpa using hRH.symm);clear hget
      go_upto_region 9 with fail
      refine Xr.start [gR] kr ?_;refine Xtk 0 ?_
      iterate 10(refine Xtn ?_)
      refine Xcl 11 fun w4 hE4 hK4 K hKK=>?_;go_simp;refine(HS w4 hE4).out.mono ?_;rintro e w5 ⟨rfl,x5⟩;refine hKK _ _ x5 ?_;clear hKK;refine ptm ?_;refine Xtk 12 ?_;have E45:=hE4.trans x5;refine Xsp 13 fun w6 hE6 hK6 K hKK=>?_;have R6:=HRr.out.ext (E45.trans hE6);have c6:w6.cell? ⟨gR,k,none⟩=some (.bool ((upB (hasF cs h.l) k cs.length).getD k false)):=by
       rw[R6.cell];simp[bInts,upB,hlt2,List.getD_eq_getElem?_getD]
      have f6:=R6.frz k;go_simp;refine hKK _ _ (WI_setL (WI_refl _ _ _) List.mem_cons_self _ _) (hK6.setL List.mem_cons_self _ _) ?_;clear hKK;refine ptm ?_;refine Xdn fun w7 hE7 hK7=>?_;have R7:=(R6.set k (.bool bv)).ext hE7;rw[bInts_set,<-HV.out,upB_set] at R7;have HR7:=lh R7;have HH7:=lh (((HHr.out.ext (E45.trans hE6)).far (p:=⟨gR,k,none⟩) hRH.symm (.bool bv)).ext hE7);have K7:Kp [gH] wx w7:=(((HKr.ext (E45.trans hE6)).set (p:=⟨gR,k,none⟩) (.inr hgRx) (.bool bv))).ext hE7;clear R6 R7 c6 f6 j1 j2 j3
      go_wp2_with fail
      go_roundw
      case rel=>exact⟨k+1,by go_num,om,HH7,HR7,K7⟩
      case measure=>simp[intOf];omega
     ·have hkI:¬(k:Int)<cs.length:=om;obtain rfl:k=cs.length:=om;have HB9:=lh (Kp.blk HBx.out HKr (by simpa using hbn));have hR0:=HR0'.out;have HR9:Hid (RowsOk wr hs cs (i+1) (rows.set i r0)):=lh ⟨by rw[List.length_set];exact hrl,fun k hk hk2 hki=>by
       rw[List.length_set] at hk2;by_cases e:i=k
       ·subst e;rw[List.getElem_set_self,hR0,if_pos (by rw[hh.out];exact hop),hh.out]
       ·rw[List.getElem_set_ne e];exact HR.out.val k hk hk2 om,fun k hk2 hki=>by
       rw[List.length_set] at hk2;by_cases e:i=k
       ·subst e;rw[List.getElem_set_self,hR0];have h9:=IB.of_blkB HRr.out (by rw[upB_len];unfold maxLen;omega);rw[upB_len] at h9;exact h9
       ·rw[List.getElem_set_ne e];exact((HR.out.ib k hk2 om).ext EX).kpR HHx.out HKr,fun k hk2 hki=>by
       rw[List.length_set] at hk2;by_cases e:i=k
       ·subst e;rw[List.getElem_set_self,hR0];intro b hb;have e:gR=b:=by simpa using hb
        subst e;exact⟨_,HRr.out⟩
       ·rw[List.getElem_set_ne e];exact((HR.out.ty k hk2 om).ext EX).kp (Kp.p3 HKr) (fun b hb cur hh=>by
         have e:b=gH:=by simpa using hb
         subst e;have h9:=HHx.out;unfold Blk at h9;rw[h9] at hh;injection hh with hh;injection hh with _ h3
         revert h3;decide),fun k hk2 hki=>by
       rw[List.length_set] at hk2;rw[List.getElem_set_ne om];exact HR.out.nil k hk2 om⟩
      clear hR0
      go_wp2_with fail
      go_roundw
      case rel=>exact⟨i+1,rows.set i r0,by go_num,om,HB9,HHr,HR9,HKw⟩
      case measure=>simp[intOf];omega
   ·have hopb:(h.op != 1)=true:=by simpa using hop
    have HR2:Hid (RowsOk wx hs cs (i+1) rows):=lh ⟨hrl,fun k hk hk2 hki=>by
     rcases Nat.lt_or_ge k i with h3|h3
     ·exact HR.out.val k hk hk2 h3
     ·have e:k=i:=om;subst e;rw[HR.out.nil k hk2 (Nat.le_refl _),if_neg (by rw[hh.out];exact hop)]
      rfl,fun k hk2 hki=>by
     rcases Nat.lt_or_ge k i with h3|h3
     ·exact(HR.out.ib k hk2 h3).ext EX
     ·rw[HR.out.nil k hk2 h3];exact⟨Nat.le_refl _,Nat.zero_le _,fun hn=>absurd rfl hn⟩,fun k hk2 hki=>by
     rcases Nat.lt_or_ge k i with h3|h3
     ·exact(HR.out.ty k hk2 h3).ext EX
     ·rw[HR.out.nil k hk2 h3];exact fun b hb=>by simp[nilB] at hb,fun k hk2 hki=>HR.out.nil k hk2 om⟩
    clear HR HB HH HK
    go_wp2_with fail
    go_roundw
    case rel=>exact⟨i+1,rows,by go_num,om,HBx,HHx,HR2,HKx⟩
    case measure=>simp[intOf];omega
  ·have hiI:¬(i:Int)<hs.length:=om;obtain rfl:i=hs.length:=om
   go_wp2_with fail
   exact bodyPost_ret (v:=.tuple #[]) (by simp[results,Tryz.results72,go_sem]) rfl ⟨gH,rows,rfl,HB.out,HH.out,HR.out,by rw[HGH.out];exact Nat.le_refl _,HK.out⟩
structure AddI (n:Nat)(s:List Nat×List Nat):Prop where
 ok:SeenOk n s.2
 len:s.1.length<=s.2.length
 lt:∀p∈s.1,p<n
theorem AddI.see {n:Nat}{s:List Nat×List Nat}(h:AddI n s){pc:Nat}(hp:pc<n)(hn:pc∉s.2):AddI n (s.1,s.2++[pc]):=
 ⟨h.ok.snoc hp hn,by have:=h.len;simp only[List.length_append,List.length_cons,List.length_nil];omega,h.lt⟩
theorem AddI.put {n:Nat}{s:List Nat×List Nat}(h:AddI n s){pc:Nat}(hp:pc<n)(hn:pc∉s.2):AddI n (s.1++[pc],s.2++[pc]):=
 ⟨h.ok.snoc hp hn,by have:=h.len;simp only[List.length_append,List.length_cons,List.length_nil];omega,fun p hp2=>by
  rcases List.mem_append.1 hp2 with h1|h1
  ·exact h.lt p h1
  ·have:p=pc:=by simpa using h1
   omega⟩
theorem addP_inv {G:List Ins}:∀f s pc,AddI G.length s->AddI G.length (addP G f s pc).1/\s.2.length<=(addP G f s pc).1.2.length
 | 0,s,pc,h=>⟨h,Nat.le_refl _⟩
 | f+1,s,pc,h=>by
  unfold addP
  split
  ·exact⟨h,Nat.le_refl _⟩
  ·rename_i hn
   split
   ·exact⟨h,Nat.le_refl _⟩
   ·rename_i i hi
    obtain⟨hlt,_⟩:=List.getElem?_eq_some_iff.1 hi;have h1:=h.see hlt hn;have hl:s.2.length<=(s.2++[pc]).length:=by simp
    split
    ·have h2:=addP_inv f (s.1,s.2++[pc]) i.x.toNat h1
     split
     ·have h3:=addP_inv f _ i.y.toNat h2.1;exact⟨h3.1,Nat.le_trans hl (Nat.le_trans h2.2 h3.2)⟩
     ·exact⟨h2.1,Nat.le_trans hl h2.2⟩
    ·split
     ·have h2:=addP_inv f (s.1,s.2++[pc]) i.x.toNat h1;exact⟨h2.1,Nat.le_trans hl h2.2⟩
     ·split
      ·have h2:=addP_inv f (s.1,s.2++[pc]) (pc+1) h1;exact⟨h2.1,Nat.le_trans hl h2.2⟩
      ·exact⟨h.put hlt hn,hl⟩
structure LsP where
 base:Nat
 gB:Nat
 gl:Nat
 ga:Nat
 gb:Nat
 gM:Nat
structure LsI (wr w0:World)(p:LsP)(gA:Option Addr)(gc:Nat)(n:Nat)(H:Value)(mark:Int)(mp L:Value)(s:List Nat×List Nat):Prop where
 ext:Ext w0 wr
 bB:Blk wr p.gB 146 #[.pointer (some ⟨p.gb,0,none⟩)]
 bA:Blk wr p.ga 264 #[.func (.func 187) #[] #[.pointer (some ⟨p.gB,0,none⟩),.pointer (some ⟨p.gl,0,none⟩),.pointer (some ⟨p.ga,0,none⟩)]]
 bl:∃A c,Blk wr p.gl 22 #[.slice A s.1.length c]/\OwnS wr p.base 3 1 A s.1.length c ((natsI s.1).map (Value.int .i64))
 bb:Blk wr p.gb 150 (gbCells gA n gc H (.slice (some ⟨p.gM,0,none⟩) n n) mark mp L)
 bm:∃ms,Blk wr p.gM 3 (iInts ms)/\ms.length=n/\∀i,i<n->((ms.getD i 0=mark<->i∈s.2)/\ms.getD i 0<=mark)
 lM:p.gM<p.base
 l0:w0.heap.size<=p.gM
 ll:p.base<=p.gl
theorem LsI.extW {wr w' w0:World}{p:LsP}{gA:Option Addr}{gc n:Nat}{H mp L:Value}{mark:Int}{s:List Nat×List Nat}(h:LsI wr w0 p gA gc n H mark mp L s)(x:Ext wr w'):LsI w' w0 p gA gc n H mark mp L s:=by
 obtain⟨h1,h2,h3,⟨A,c,h4,h5⟩,h6,⟨ms,h7,h8⟩,h9,h10,h11⟩:=h;exact⟨h1.trans x,h2.ext x,h3.ext x,⟨A,c,h4.ext x,OwnS.ext h5 x⟩,h6.ext x,⟨ms,h7.ext x,h8⟩,h9,h10,h11⟩
theorem LsI.mark {wr w0:World}{p:LsP}{gA:Option Addr}{gc n:Nat}{H mp L:Value}{mark:Int}{s:List Nat×List Nat}(h:LsI wr w0 p gA gc n H mark mp L s){pc:Nat}(hp:pc<n) :
 LsI (wr.setCell ⟨p.gM,pc,none⟩ (.int .i64 mark)) w0 p gA gc n H mark mp L (s.1,s.2++[pc]):=by
 obtain⟨h1,h2,h3,⟨A,c,h4,h5⟩,h6,⟨ms,h7,h8,h8'⟩,h9,h10,h11⟩:=h;have d1:=blk_blk h2 h7 de;have d2:=blk_blk h3 h7 de;have d3:=blk_blk h4 h7 de;have d4:=blk_blk h6 h7 de;refine⟨h1.setNew h10 _,h2.far d1 _,h3.far d2 _,⟨A,c,h4.far d3 _,OwnS.far h5 (fun e=>?_) _⟩,h6.far d4 _,⟨ms.set pc mark,?_,by rw[List.length_set];exact h8,fun i hi=>?_⟩,h9,h10,h11⟩
 ·have:=OwnS.row h5 _ e
  simp only at this;omega
 ·rw[<-iInts_set];exact h7.set pc _
 ·have hi2:i<ms.length:=om;have h12:=h8' i hi;simp only[List.getD_eq_getElem?_getD] at h12;simp only[List.getD_eq_getElem?_getD,List.getElem?_set,List.mem_append,List.mem_singleton];by_cases e:pc=i
  ·subst e;simp[hi2]
  ·rw[if_neg e];refine⟨⟨fun h13=>.inl (h12.1.1 h13),?_⟩,h12.2⟩;rintro(h13|h13)
   ·exact h12.1.2 h13
   ·exact absurd h13.symm e
def LsK (p:LsP)(w:World)(b:Nat):Prop:=b=p.gM\/(p.base<=b/\(b=p.gl\/∃cur,w.heap[b]? = some (.cells cur 3 (0,0))))
theorem LsK.chain {p:LsP}{w w1 w2:World}(h:KpP (LsK p w) w w1)(k:KpP (LsK p w1) w1 w2):KpP (LsK p w) w w2:=
 ⟨k.os.trans h.os,k.tape.trans h.tape,k.output.trans h.output,Nat.le_trans h.size k.size,fun i hi hn=>by
  have h1:=h.block i hi hn;refine(k.block i (Nat.lt_of_lt_of_le hi h.size) (fun hq=>hn ?_)).trans h1;rcases hq with hq|⟨h2,hq|⟨cur,hq⟩⟩
  ·exact .inl hq
  ·exact .inr ⟨h2,.inl hq⟩
  ·exact .inr ⟨h2,.inr ⟨cur,h1▸hq⟩⟩⟩
theorem LsK.blk {p:LsP}{w w1:World}(h:KpP (LsK p w) w w1){g T:Nat}{cs:Array Value}(hb:Blk w g T cs)(hM:g≠p.gM)(hl:g≠p.gl)(hT:T≠3):Blk w1 g T cs:=
 (h.block g hb.lt (fun hq=>by
  rcases hq with hq|⟨_,hq|⟨cur,hq⟩⟩
  ·exact hM hq
  ·exact hl hq
  ·unfold Blk at hb;rw[hb] at hq;injection hq with hq;injection hq with _ h2
   exact hT h2)).trans hb
def RetAdd2 (w0:World)(p:LsP)(gA:Option Addr)(gc n:Nat)(H:Value)(mark:Int)(mp L:Value)(r:(List Nat×List Nat)×Bool)(w:World)(e:Ending)(w':World):Prop:=
 e=.returned (.bool r.2)/\LsI w' w0 p gA gc n H mark mp L r.1/\KpP (LsK p w) w w'
theorem egList:∀args w,(callFunc 187 args).run Tryz.prog w=.ok (.enter 187 args) w:=enters_of Tryz.func187 kr rfl
theorem addP_old {G:List Ins}{f pc:Nat}{s:List Nat×List Nat}(h:pc∈s.2):addP G (f+1) s pc=(s,true):=by
 unfold addP;rw[if_pos h]
theorem addP_step {G:List Ins}{f pc:Nat}{s:List Nat×List Nat}{i:Ins}(h:pc∉s.2)(hi:G[pc]? = some i):addP G (f+1) s pc =
 if i.op=2 then
  if(addP G f (s.1,s.2++[pc]) i.x.toNat).2=true then addP G f (addP G f (s.1,s.2++[pc]) i.x.toNat).1 i.y.toNat
  else addP G f (s.1,s.2++[pc]) i.x.toNat
 else if i.op=3 then addP G f (s.1,s.2++[pc]) i.x.toNat
 else if i.op=4 then addP G f (s.1,s.2++[pc]) (pc+1)
 else((s.1++[pc],s.2++[pc]),decide (i.op≠0)):=by
 conv=>lhs;unfold addP
 rw[if_neg h,hi]
theorem lsi_put {wx w8 w0:World}{base gB gl ga gb gM:Nat}{gA:Option Addr}{gc n:Nat}{H mp L:Value}{mark:Int}{s:List Nat×List Nat}{pc:Nat}{LA A8:Option Addr}{lc c8:Nat}
 (h:LsI wx w0 ⟨base,gB,gl,ga,gb,gM⟩ gA gc n H mark mp L (s.1,s.2++[pc])) (hg:(wx.alloc (.cells #[.int .i64 pc] 3)).grownBy w8 (LA.map (·.block)))
 (ho:OwnS w8 base 3 1 A8 (s.1.length+1) c8 ((natsI s.1).map (Value.int .i64)++[.int .i64 pc])) (ol:OwnS wx base 3 1 LA s.1.length lc ((natsI s.1).map (Value.int .i64))) :
 LsI (w8.setCell ⟨gl,0,none⟩ (.slice A8 (s.1.length+1) c8)) w0 ⟨base,gB,gl,ga,gb,gM⟩ gA gc n H mark mp L (s.1++[pc],s.2++[pc]):=by
 obtain⟨h1,h2,h3,⟨A,c,h4,h5⟩,h6,⟨ms,h7,h8,h8'⟩,h9,h10,h11⟩:=h;have X:=Ext.alloc wx (.cells #[.int .i64 pc] 3);have k:=KpP.of_grown hg;have olx:=OwnS.ext ol X;have hM:LA.map (·.block)≠some gM:=fun e=>by
  have:=OwnS.row olx _ e
  simp only at h9;omega
 have b2:=k.blk (h2.ext X) (own_blk olx (h2.ext X) de);have b3:=k.blk (h3.ext X) (own_blk olx (h3.ext X) de);have b4:=k.blk (h4.ext X) (own_blk olx (h4.ext X) de);have b6:=k.blk (h6.ext X) (own_blk olx (h6.ext X) de);have b7:=k.blk (h7.ext X) hM;have d2:=blk_blk b2 b4 de;have d3:=blk_blk b3 b4 de;have d6:=blk_blk b6 b4 de;have d7:=blk_blk b7 b4 de;have x8:Ext w0 w8:=(h1.trans X).grown hg (fun i hi=>by
  have:=OwnS.row olx _ hi
  simp only at h9 h10 h11;omega)
 refine⟨x8.setNew (by simp only at h9 h10 h11;simp only;omega) _,b2.far d2 _,b3.far d3 _,⟨A8,c8,?_,?_⟩,b6.far d6 _,⟨ms,b7.far d7 _,h8,h8'⟩,h9,h10,h11⟩
 ·have b:=b4.set 0 (.slice A8 (s.1.length+1) c8)
  simpa using b
 ·have e:(natsI (s.1++[pc])).map (Value.int .i64)=(natsI s.1).map (Value.int .i64)++[.int .i64 pc]:=by simp[natsI]
  have e2:(s.1++[pc]).length=s.1.length+1:=by simp
  simp only[e,e2];exact OwnS.far ho (fun e=>by
   have:=own_blk ho b4 de;exact this e) _
theorem lsk_put {p:LsP}{wa w8:World}{LA:Option Addr}{n lc:Nat}{xs:List Value}(ll:p.base<=p.gl)(hg:wa.grownBy w8 (LA.map (·.block)))(ol:OwnS wa p.base 3 1 LA n lc xs)(v:Value):KpP (LsK p wa) wa (w8.setCell ⟨p.gl,0,none⟩ v):=by
 refine KpP.set (x:=⟨p.gl,0,none⟩) (KpP.mono (KpP.of_grown hg) (fun i hi=>?_)) (.inl (.inr ⟨ll,.inl rfl⟩)) v;obtain⟨_,cur,hh⟩:=OwnS.blt ol hi;exact .inr ⟨OwnS.row ol _ hi,.inr ⟨cur,hh⟩⟩
theorem Y18z1 {P:Prop} (h:P:=by
 obtain⟨LA,lc,bl,ol⟩:=hIx.out.bl;have bl':Blk wx gl 22 #[.slice LA s.1.length lc]:=bl;have ol':OwnS wx base 3 1 LA s.1.length lc ((natsI s.1).map (Value.int .i64)):=ol;have hsl:s.1.length<=hs.length:=by have:=HAP.out.len;have:=HAP.out.ok.len;simp only[List.length_append,List.length_cons,List.length_nil] at *;omega
 have hbs:base<=wx.heap.size:=by have:=bl'.lt;omega
 have HX8:=lh hIx.out;have hl0:wx.cell? ⟨gl,0,none⟩=some (.slice LA s.1.length lc):=bl'.cell 0;obtain⟨iI,jI0,jI1,jI2,jI3⟩:=info_parts infoI1;have EP:=Ext.alloc wx (.cells #[.int .i64 pc] 3);have HBL:=fun(w8:World) (hg:(wx.alloc (.cells #[.int .i64 pc] 3)).grownBy w8 (LA.map (·.block)))=>(KpP.of_grown hg).blk (bl'.ext EP) (own_blk (OwnS.ext ol' EP) (bl'.ext EP) de);clear HST HIH hju hju2 hnx bl ol z1 hIx
 go_wp2_with ((at_builtin;refine wpList_app _ rfl _ _ _ rfl base 3 iI (.int .i64 0) 1 8 Tryz.underlying22 jI0 jI1 jI2 jI3 rfl om LA s.1.length lc ((natsI s.1).map (Value.int .i64)) rfl (OwnS.ext ol' (Ext.alloc _ _)) _ 1 1 [.int .i64 pc] rfl rfl (blk_cells (Blk.new _ _ _)) (by intro u hu;simp only[List.mem_cons,List.not_mem_nil,or_false] at hu;rcases hu with rfl;rfl) um om (Nat.le_trans hbs (Ext.alloc _ _).size) ?_;intro A8 c8 w8 ho8 hg8 hat8;have cl8:=(HBL w8 hg8).cell 0;have fl8:=(HBL w8 hg8).frz 0))
 have K8:=(Kx.trans (KpP.of_ext (Ext.alloc wx (.cells #[.int .i64 pc] 3))));have h8:=lsi_put HX8.out hg8 ho8 ol';have KK:=lsk_put (p:=⟨base,gB,gl,ga,gb,gM⟩) ll hg8 (OwnS.ext ol' (Ext.alloc wx (.cells #[.int .i64 pc] 3)));go_ret
 exact⟨by rw[HR.out];rfl,by rw[HR.out];exact h8,LsK.chain K8 (KK _)⟩):P:=h
theorem Y18z2 {P:Prop} (h:P:=by
 go_wp2_with (go_at_fn 187;refine HC.out.mono ?_;rintro e w7 ⟨rfl,h7,k7⟩)
 go_ret
 exact⟨by rw[HR.out];rfl,by rw[HR.out];exact h7,LsK.chain Kx k7⟩):P:=h
theorem addC_any (w0:World)(base gB gl ga gb gM:Nat)(gA:Option Addr)(gc:Nat)(hs:List Hin)(runes:Bool)(caps:Int)(hG:GOk runes caps (insL hs))(hP:PL w0 gA gc hs)(H:Value)(mark:Int)(mp L:Value) :
 ∀(f:Nat) (w:World) (s:List Nat×List Nat) (pc:Nat),LsI w w0 ⟨base,gB,gl,ga,gb,gM⟩ gA gc hs.length H mark mp L s->AddI hs.length s->hs.length<f+s.2.length->pc<hs.length->
 Calls Tryz.prog 187 #[.int .i64 pc,.pointer (some ⟨gB,0,none⟩),.pointer (some ⟨gl,0,none⟩),.pointer (some ⟨ga,0,none⟩)] w (RetAdd2 w0 ⟨base,gB,gl,ga,gb,gM⟩ gA gc hs.length H mark mp L (addP (insL hs) f s pc) w):=by
 intro f;induction f with
 | zero=>
  intro w s pc hI hA hf hp;have:=hA.ok.len;omega
 | succ f ih=>
  intro w s pc hI hA hf hp;have eg:=egList;obtain⟨x0,bB,bA,⟨A,c,bl,ol⟩,bb,⟨ms,bm,hml,hmk⟩,lM,l0,ll⟩:=hI
  simp only at bB bA bl ol bb bm lM l0 ll
  have hI:=lh (show LsI w w0 ⟨base,gB,gl,ga,gb,gM⟩ gA gc hs.length H mark mp L s from⟨x0,bB,bA,⟨A,c,bl,ol⟩,bb,⟨ms,bm,hml,hmk⟩,lM,l0,ll⟩);have hgl:=hP.len;have hn8:=hG.len;rw[insL_len] at hn8;have hpI:(pc:Int)<hs.length:=om;have hpm:pc<ms.length:=om;have cB:w.cell? ⟨gB,0,none⟩=some (.pointer (some ⟨gb,0,none⟩)):=bB.cell 0;have cM:w.cell? ⟨gb,2,none⟩=some (.slice (some ⟨gM,0,none⟩) hs.length hs.length):=bb.cell 2;have ck:w.cell? ⟨gb,3,none⟩=some (.int .i64 mark):=bb.cell 3;have cm:w.cell? ⟨gM,pc,none⟩=some (.int .i64 ms[pc]):=by rw[bm.cell];simp[iInts,hpm]
  have hmp:=(hmk pc hp).1;have hgd:ms.getD pc 0=ms[pc]:=by simp[List.getD_eq_getElem?_getD,hpm]
  rw[hgd] at hmp;clear hgd hmk hml;by_cases hm:pc∈s.2
  ·have hx:=hmp.2 hm;rw[hx] at cm;rw[addP_old hm];have j1:=kc0 cB;have j2:=kc0 cM;have j3:=kc0 ck;have j4:=kc0 cm;clear hx hmp hm hf hA bB bA bl ol bb bm ih;go_enter Tryz.func187,Tryz.ntmps187
   go_upto_region 1 with fail
   refine Xr.start [] kr ?_;refine Xtk 0 ?_
   iterate 11(refine Xtn ?_)
   refine Xdn fun w4 hE4 hK4=>?_;clear j1 j2 j3 j4
   go_wp2_with fail
   go_ret
   exact⟨rfl,hI.out.extW hE4,KpP.of_ext hE4⟩
  ·have hx:(ms[pc] == mark)=false:=by
    rw[beq_eq_false_iff_ne];exact fun e=>hm (hmp.1 e)
   have hins:=insL_get hp;have HST:=lh (addP_step (f:=f) hm hins);have HAS:=lh (hA.see hp hm);have HAP:=lh (hA.put hp hm);obtain⟨r,hr⟩:∃r,Hid (addP (insL hs) (f+1) s pc=r):=⟨_,lh rfl⟩;rw[hr.out] at HST ⊢;have nB:=blk_blk bB bm de;have nb:=blk_blk bb bm de;generalize ms[pc]=mx at *;clear hmp;have j1:=kc0 cB;have j2:=kc0 cM;have j3:=kc0 ck;have j4:=kc0 cm;have HIH:=lh ih;have HG:=lh hG;clear ih hG;go_enter Tryz.func187,Tryz.ntmps187
   go_upto_region 1 with fail
   refine Xr.start [] kr ?_;refine Xtk 0 ?_
   iterate 11(refine Xtn ?_)
   refine Xdn fun w4 hE4 hK4=>?_;clear j1 j2 j3 j4;have k1:=fun(w':World) (h:Kp [gM] w4 w')=>h.cell (hE4.cell cB) (by simpa using nB);have k2:=fun(w':World) (h:Kp [gM] w4 w')=>h.cell (hE4.cell cM) (by simpa using nb);have k3:=fun(w':World) (h:Kp [gM] w4 w')=>h.cell (hE4.cell ck) (by simpa using nb)
   go_upto_region 3 with fail
   refine Xr.start [gM] kr ?_;refine Xtk 0 ?_
   iterate 9(refine Xtn ?_)
   refine Xsp 10 fun w5 hE5 hK5 K hKK=>?_;have c5:=(hE4.trans hE5).cell cm;have f5:=(bm.ext (hE4.trans hE5)).frz pc;go_simp;refine hKK _ _ (WI_setL (WI_refl _ _ _) List.mem_cons_self _ _) (hK5.setL List.mem_cons_self _ _) ?_;clear hKK;refine ptm ?_;refine Xdn fun w6 hE6 hK6=>?_;have hI6:=lh (((hI.out.extW (hE4.trans hE5)).mark hp).extW hE6);have K6:KpP (LsK ⟨base,gB,gl,ga,gb,gM⟩ w) w w6:=(KpP.set (x:=⟨gM,pc,none⟩) (KpP.of_ext (hE4.trans hE5)) (.inl (.inl rfl)) (.int .i64 mark)).trans (KpP.of_ext hE6);clear k1 k2 k3 c5 f5 hE4 hK4 hE5 hK5 hE6 hK6 cB cM ck cm bB bA bl ol bb bm hx;have cB:w6.cell? ⟨gB,0,none⟩=some (.pointer (some ⟨gb,0,none⟩)):=hI6.out.bB.cell 0;have c0b:w6.cell? ⟨gb,0,none⟩=some (.slice gA hs.length gc):=hI6.out.bb.cell 0;obtain⟨pb,po,hgA,c0,c1,c2,c3,c4⟩:=(hP.ext hI6.out.ext).get hp;have hgA':=hgA;subst hgA';obtain⟨h,hh⟩:∃h,Hid (hs[pc]=h):=⟨_,lh rfl⟩;rw[hh.out] at c0 c1 c2 c3 c4 HST;have BX:=Blk.new w6 133 #[.int .i64 h.op,.int .i64 h.x,.int .i64 h.y,.int .i64 h.n,.slice h.A h.l.length h.c];have EX:=Ext.alloc w6 (.cells #[.int .i64 h.op,.int .i64 h.x,.int .i64 h.y,.int .i64 h.n,.slice h.A h.l.length h.c] 133)
   go_upto_region 5 with fail
   obtain⟨gx,hgx⟩:∃gx,gx=w6.heap.size:=⟨_,rfl⟩
   rw[<-hgx] at BX ⊢;generalize w6.alloc (.cells #[.int .i64 h.op,.int .i64 h.x,.int .i64 h.y,.int .i64 h.n,.slice h.A h.l.length h.c] 133)=wx at *;have hIx:=lh (hI6.out.extW EX);have Kx:=K6.trans (KpP.of_ext EX);have hMx:gx≠gM:=by
    obtain⟨ms,b,_⟩:=hIx.out.bm;exact blk_blk BX b de
   have hlx:gx≠gl:=by
    obtain⟨A,c,b,_⟩:=hIx.out.bl;exact blk_blk BX b de
   have z0:wx.cell? ⟨gx,0,none⟩=some (.int .i64 h.op):=BX.cell 0;have z1:wx.cell? ⟨gx,1,none⟩=some (.int .i64 h.x):=BX.cell 1;have hpG:pc<(insL hs).length:=by rw[insL_len];exact hp
   have hgi:(insL hs)[pc]=h.ins:=by rw[insL_getElem,hh.out]
   have hop:=HG.out.op hpG;have hnx:=HG.out.next hpG;have hju:=HG.out.jump hpG;have hju2:=HG.out.jump2 hpG;rw[hgi] at hop hnx hju hju2;rw[insL_len] at hnx hju hju2;have ca:wx.cell? ⟨ga,0,none⟩=some (.func (.func 187) #[] #[.pointer (some ⟨gB,0,none⟩),.pointer (some ⟨gl,0,none⟩),.pointer (some ⟨ga,0,none⟩)]):=hIx.out.bA.cell 0;clear hgi hpG cB c0b c0 c1 c2 c3 c4 hI6 K6 hgx hI;have hfs:hs.length<f+(s.2++[pc]).length:=by simp only[List.length_append,List.length_cons,List.length_nil];omega
   have hop':h.op=0\/h.op=1\/h.op=2\/h.op=3\/h.op=4:=hop;clear hop;by_cases h0:h.op=0
   ·skip
    rw[h0] at z0;have HR:Hid (r=((s.1++[pc],s.2++[pc]),false)):=lh (by
     rw[HST.out,if_neg (show ¬h.ins.op=2 from by show ¬h.op=2;omega),if_neg (show ¬h.ins.op=3 from by show ¬h.op=3;omega),if_neg (show ¬h.ins.op=4 from by show ¬h.op=4;omega)];have e:decide (h.ins.op≠0)=false:=by
      show decide (h.op≠0)=false
      rw[h0];rfl
     rw[e])
    exact Y18z1
   ·by_cases h1:h.op=1
    ·skip
     rw[h1] at z0;have HR:Hid (r=((s.1++[pc],s.2++[pc]),true)):=lh (by
      rw[HST.out,if_neg (show ¬h.ins.op=2 from by show ¬h.op=2;omega),if_neg (show ¬h.ins.op=3 from by show ¬h.op=3;omega),if_neg (show ¬h.ins.op=4 from by show ¬h.op=4;omega)];have e:decide (h.ins.op≠0)=true:=by
       show decide (h.op≠0)=true
       rw[h1];rfl
      rw[e])
     exact Y18z1
    ·by_cases h2:h.op=2
     ·skip
      obtain⟨x,hx,hxl⟩:=hju (.inl h2);obtain⟨y,hy,hyl⟩:=hju2 h2;have hx':h.x=(x:Int):=hx;have hy':h.y=(y:Int):=hy;have z2:wx.cell? ⟨gx,2,none⟩=some (.int .i64 h.y):=BX.cell 2;rw[h2] at z0;rw[hx'] at z1;rw[hy'] at z2;have HC:=lh (HIH.out wx (s.1,s.2++[pc]) x hIx.out HAS.out hfs hxl);have hn':(insL hs).length=hs.length:=insL_len hs;have HI1:=lh (addP_inv (G:=insL hs) f (s.1,s.2++[pc]) x (by rw[hn'];exact HAS.out));rw[hn'] at HI1;have HR:Hid (r=if(addP (insL hs) f (s.1,s.2++[pc]) x).2=true then addP (insL hs) f (addP (insL hs) f (s.1,s.2++[pc]) x).1 y else addP (insL hs) f (s.1,s.2++[pc]) x):=lh (by
       rw[HST.out,if_pos (show h.ins.op=2 from h2)];have e:h.ins.x.toNat=x:=by show h.x.toNat=x;omega
       have e2:h.ins.y.toNat=y:=by show h.y.toNat=y;omega
       rw[e,e2])
      obtain⟨r1,hr1⟩:∃r1,Hid (addP (insL hs) f (s.1,s.2++[pc]) x=r1):=⟨_,lh rfl⟩;rw[hr1.out] at HC HR HI1;obtain⟨s1,b1⟩:=r1;have hs1:(s.2++[pc]).length<=s1.2.length:=HI1.out.2;have hy9:=lh hy';clear HST hju hju2 hnx hx hx' hy hy' hn';by_cases hb:b1=true
      ·subst hb;have HR2:Hid (r=addP (insL hs) f s1 y):=lh (by rw[HR.out,if_pos rfl]);have HC2:=fun(w':World) (hI:LsI w' w0 ⟨base,gB,gl,ga,gb,gM⟩ (some ⟨pb,po,none⟩) gc hs.length H mark mp L s1)=>lh (HIH.out w' s1 y hI HI1.out.1 om hyl);clear HR HIH
       go_upto_region 15 with fail
       go_wp2_with fail
       refine HC.out.mono ?_;rintro e w7 ⟨rfl,h7,k7⟩;have BX7:=LsK.blk k7 BX hMx hlx de;have z27:w7.cell? ⟨gx,2,none⟩=some (.int .i64 y):=by rw[<-hy9.out];exact BX7.cell 2
       have ca7:w7.cell? ⟨ga,0,none⟩=some (.func (.func 187) #[] #[.pointer (some ⟨gB,0,none⟩),.pointer (some ⟨gl,0,none⟩),.pointer (some ⟨ga,0,none⟩)]):=h7.bA.cell 0;have HH7:=lh h7;have HK7:=lh k7;clear BX7 BX z0 z1 z2 ca h7 k7
       go_wp2_with fail
       refine(HC2 _ HH7.out).out.mono ?_;rintro e w9 ⟨rfl,h9,k9⟩;have h7:=HH7.out;have k7:=HK7.out
       go_wp2_with fail
       go_ret
       exact⟨by rw[HR2.out];rfl,by rw[HR2.out];exact h9,LsK.chain Kx (LsK.chain k7 k9)⟩
      ·have hb2:b1=false:=by simpa using hb
       subst hb2;have HR2:Hid (r=(s1,false)):=lh (by rw[HR.out,if_neg si]);clear HR HIH
       go_upto_region 15 with fail
       go_wp2_with (go_at_fn 187;refine HC.out.mono ?_;rintro e w7 ⟨rfl,h7,k7⟩)
       go_ret
       exact⟨by rw[HR2.out];rfl,by rw[HR2.out];exact h7,LsK.chain Kx k7⟩
     ·by_cases h3:h.op=3
      ·obtain⟨x,hx,hxl⟩:=hju (.inr h3);have hx':h.x=(x:Int):=hx;rw[h3] at z0;rw[hx'] at z1;have HC:=lh (HIH.out wx (s.1,s.2++[pc]) x hIx.out HAS.out hfs hxl);have HR:Hid (r=addP (insL hs) f (s.1,s.2++[pc]) x):=lh (by
        rw[HST.out,if_neg (show ¬h.ins.op=2 from h2),if_pos (show h.ins.op=3 from h3)];have e:h.ins.x.toNat=x:=by show h.x.toNat=x;omega
        rw[e])
       clear HST HIH hju hju2 hnx hx hx'
       go_upto_region 13 with fail
       exact Y18z2
      ·have h4:h.op=4:=om;have hnl:=hnx (.inr h4);rw[h4] at z0;have HC:=lh (HIH.out wx (s.1,s.2++[pc]) (pc+1) hIx.out HAS.out hfs hnl);have HR:Hid (r=addP (insL hs) f (s.1,s.2++[pc]) (pc+1)):=lh (by
        rw[HST.out,if_neg (show ¬h.ins.op=2 from h2),if_neg (show ¬h.ins.op=3 from h3),if_pos (show h.ins.op=4 from h4)])
       have hw1:IntKind.i64.wrap ((pc:Int)+1)=((pc+1:Nat):Int):=wj;clear HST HIH hju hju2 hnx;exact Y18z2
def TyI (w:World)(A:Option Addr):Prop:=∀b,A.map (·.block)=some b->∃cur,w.heap[b]? = some (.cells cur 3 (0,0))
theorem TyI.kp {w w':World}{A:Option Addr}{p:Nat->Prop}(h:TyI w A)(k:KpP p w w')(hp:∀b,p b->∀cur,w.heap[b]?≠some (.cells cur 3 (0,0))):TyI w' A:=fun b hb=>by
 obtain⟨cur,hh⟩:=h b hb;exact⟨cur,(k.block b (Array.getElem?_eq_some_iff.1 hh).1 (fun hq=>hp b hq cur hh)).trans hh⟩
theorem TyI.ext {w w':World}{A:Option Addr}(h:TyI w A)(x:Ext w w'):TyI w' A:=fun b hb=>by
 obtain⟨cur,hh⟩:=h b hb;exact⟨cur,(x.block b (Array.getElem?_eq_some_iff.1 hh).1).trans hh⟩
theorem IL.kpT {w w':World}{A:Option Addr}{c:Nat}{xs:List Int}{p:Nat->Prop}(h:IL w A c xs)(t:TyI w A)(k:KpP p w w')(hp:∀b,p b->∀cur,w.heap[b]?≠some (.cells cur 3 (0,0))):IL w' A c xs:=
 IL.kp h k (fun _ b hb hq=>by
  obtain⟨cur,hh⟩:=t b hb;exact hp b hq cur hh)
theorem own_notI {w:World}{base e s n c:Nat}{A:Option Addr}{xs:List Value}(h:OwnS w base e s A n c xs)(he:e≠3):∀b,A.map (·.block)=some b->∀cur,w.heap[b]?≠some (.cells cur 3 (0,0)):=fun b hb cur hh=>by
 obtain⟨_,cur2,h2⟩:=OwnS.blt h hb;rw[h2] at hh;injection hh with hh;injection hh with _ h3
 exact he h3
theorem blk_notI {w:World}{g T:Nat}{cs:Array Value}(h:Blk w g T cs)(hT:T≠3):∀b,b=g->∀cur,w.heap[b]?≠some (.cells cur 3 (0,0)):=fun b hb cur hh=>by
 subst hb;unfold Blk at h;rw[h] at hh;injection hh with hh;injection hh with _ h3
 exact hT h3
def RetLs (gb gM:Nat)(gA:Option Addr)(gc n:Nat)(H:Value)(mark:Int)(mp L:Value)(l:List Nat)(w:World)(e:Ending)(w':World):Prop:=
 ∃(A:Option Addr) (c:Nat) (ms:List Int),e=.returned (.slice A l.length c)/\IL w' A c (natsI l)/\Fr w A/\TyI w' A/\Blk w' gb 150 (gbCells gA n gc H (.slice (some ⟨gM,0,none⟩) n n) mark mp L)/\
  Blk w' gM 3 (iInts ms)/\ms.length=n/\(∀i,i<n->ms.getD i 0<=mark)/\KpP (fun b=>b=gb\/b=gM) w w'
theorem listP_done {G:List Ins}{N:Nat}{fs:List Nat}{k:Nat}{s:List Nat×List Nat}(hk:k<fs.length):listP G N (fs.drop k) s=if(addP G N s fs[k]).2=true then listP G N (fs.drop (k+1)) (addP G N s fs[k]).1 else(addP G N s fs[k]).1:=by
 rw[List.drop_eq_getElem_cons hk,listP]
theorem list_any (w0 w:World)(hx0:Ext w0 w)(gb gM:Nat)(hgM:w0.heap.size<=gM)(hgb:w0.heap.size<=gb)(gA:Option Addr)(gc:Nat)(hs:List Hin)(runes:Bool)(caps:Int)(hG:GOk runes caps (insL hs))(hP:PL w0 gA gc hs)(H:Value)(mark:Int)(hmk:0<=mark/\mark<=1000000000)(mp L:Value)(ms:List Int)
 (bb:Blk w gb 150 (gbCells gA hs.length gc H (.slice (some ⟨gM,0,none⟩) hs.length hs.length) mark mp L)) (bm:Blk w gM 3 (iInts ms)) (hml:ms.length=hs.length) (hms:∀i,i<hs.length->ms.getD i 0<=mark)
 (F:Option Addr) (fc:Nat) (fs:List Nat) (hF:∀w',KpP (fun b=>b=gb\/b=gM) w w'->IL w' F fc (natsI fs)) (hfs:∀i∈fs,i<hs.length) :
 Calls Tryz.prog 139 #[.pointer (some ⟨gb,0,none⟩),.slice F fs.length fc] w (RetLs gb gM gA gc hs.length H (mark+1) mp L (stateG (insL hs) fs) w):=by
 have hfl:=(hF w (KpP.refl _ _)).len;rw[natsI_len] at hfl;have hgl:=hP.len;have hn8:=hG.len;rw[insL_len] at hn8;have hbM:=blk_blk bb bm de;have q3:w.cell? ⟨gb,3,none⟩=some (.int .i64 mark):=bb.cell 3;have f3:=bb.frz 3;have hgbl:=bb.lt;have hgMl:=bm.lt;have hwm:IntKind.i64.wrap (mark+1)=mark+1:=wj;have BB:=Blk.new w 146 #[.pointer (some ⟨gb,0,none⟩)];have EB:=Ext.alloc w (.cells #[.pointer (some ⟨gb,0,none⟩)] 146);obtain⟨SG,hSG⟩:∃SG,Hid (stateG (insL hs) fs=SG):=⟨_,lh rfl⟩;rw[hSG.out];go_enter Tryz.func139,Tryz.ntmps139
 go_upto_region 1 with fail
 obtain⟨gB,hgB⟩:∃gB,gB=w.heap.size:=⟨_,rfl⟩
 rw[<-hgB] at BB ⊢;have hBb:gB≠gb:=om;have HGB:=lh hgB;clear hgB;generalize w.alloc (.cells #[.pointer (some ⟨gb,0,none⟩)] 146)=wa at *;replace q3:=EB.cell q3;have b1:=bb.ext EB;replace f3:=b1.frz 3;have q0:wa.cell? ⟨gB,0,none⟩=some (.pointer (some ⟨gb,0,none⟩)):=BB.cell 0
 go_upto_region 2 with fail
 have BB2:=BB.far (p:=⟨gb,3,none⟩) hBb (.int .i64 (mark+1));have b2:=b1.set 3 (.int .i64 (mark+1));have bm2:=(bm.ext EB).far (p:=⟨gb,3,none⟩) hbM.symm (.int .i64 (mark+1));have K2:KpP (fun b=>b=gb\/b=gM) w (wa.setCell ⟨gb,3,none⟩ (.int .i64 (mark+1))):=KpP.set (x:=⟨gb,3,none⟩) (KpP.of_ext EB) (.inl (.inl rfl)) _;have X2:Ext w0 (wa.setCell ⟨gb,3,none⟩ (.int .i64 (mark+1))):=(hx0.trans EB).setNew (p:=⟨gb,3,none⟩) hgb _;generalize wa.setCell ⟨gb,3,none⟩ (.int .i64 (mark+1))=wb at *;have BL:=Blk.new wb 22 #[.slice none 0 0];have EL:=Ext.alloc wb (.cells #[.slice none 0 0] 22)
 go_upto_region 3 with fail
 obtain⟨gl,hgl2⟩:∃gl,gl=wb.heap.size:=⟨_,rfl⟩
 rw[<-hgl2] at BL ⊢;have hbase:gM<gl:=by have:=bm2.lt;omega
 have hlw:w.heap.size<=gl:=by have:=K2.size;omega
 have HGL:=lh hgl2;clear hgl2;generalize wb.alloc (.cells #[.slice none 0 0] 22)=wc at *;have BA:=Blk.new wc 264 #[.nilFunc];have EA:=Ext.alloc wc (.cells #[.nilFunc] 264)
 go_upto_region 4 with fail
 obtain⟨ga,hga⟩:∃ga,ga=wc.heap.size:=⟨_,rfl⟩
 rw[<-hga] at BA ⊢;have haw:w.heap.size<=ga:=by have:=K2.size;have:=EL.size;omega
 clear hga;generalize wc.alloc (.cells #[.nilFunc] 264)=wd at *;have za:wd.cell? ⟨ga,0,none⟩=some .nilFunc:=BA.cell 0;have fa:=BA.frz 0;have hst:(store ⟨ga,0,none⟩ (.func (.func 187) #[] #[.pointer (some ⟨gB,0,none⟩),.pointer (some ⟨gl,0,none⟩),.pointer (some ⟨ga,0,none⟩)])).run Tryz.prog wd=.ok () (wd.setCell ⟨ga,0,none⟩ (.func (.func 187) #[] #[.pointer (some ⟨gB,0,none⟩),.pointer (some ⟨gl,0,none⟩),.pointer (some ⟨ga,0,none⟩)])):=by
  rw[run_store Tryz.prog wd _ _ _ rfl,za];simp[fa]
 go_upto_region 5 with fail
 have HI0:Hid (LsI (wd.setCell ⟨ga,0,none⟩ (.func (.func 187) #[] #[.pointer (some ⟨gB,0,none⟩),.pointer (some ⟨gl,0,none⟩),.pointer (some ⟨ga,0,none⟩)])) w0 ⟨gl,gB,gl,ga,gb,gM⟩ gA gc hs.length H (mark+1) mp L ([],[])):=by
  have EE:=EL.trans EA;have d1:=blk_blk (BB2.ext EE) BA de;have d2:=blk_blk (BL.ext EA) BA de;have d3:=blk_blk (b2.ext EE) BA de;have d4:=blk_blk (bm2.ext EE) BA de;refine lh ⟨(X2.trans EE).setNew (p:=⟨ga,0,none⟩) (by have:=hx0.size;simp only;omega) _,(BB2.ext EE).far d1 _,?_,⟨none,0,(BL.ext EA).far d2 _,OwnS.nil _ _ _ _⟩,?_,⟨ms,(bm2.ext EE).far d4 _,hml,fun i hi=>⟨⟨fun h=>?_,fun h=>by simp at h⟩,?_⟩⟩,hbase,hgM,Nat.le_refl _⟩
  ·have b:=BA.set 0 (.func (.func 187) #[] #[.pointer (some ⟨gB,0,none⟩),.pointer (some ⟨gl,0,none⟩),.pointer (some ⟨ga,0,none⟩)])
   simpa using b
  ·have b:=(b2.ext EE).far (p:=⟨ga,0,none⟩) d3 (.func (.func 187) #[] #[.pointer (some ⟨gB,0,none⟩),.pointer (some ⟨gl,0,none⟩),.pointer (some ⟨ga,0,none⟩)])
   simpa[gbCells] using b
  ·have:=hms i hi;omega
  ·have:=hms i hi;omega
 have HK0:Hid (KpP (fun b=>b=gb\/b=gM) w (wd.setCell ⟨ga,0,none⟩ (.func (.func 187) #[] #[.pointer (some ⟨gB,0,none⟩),.pointer (some ⟨gl,0,none⟩),.pointer (some ⟨ga,0,none⟩)]))):=lh (KpP.set (x:=⟨ga,0,none⟩) (K2.trans (KpP.of_ext (EL.trans EA))) (.inr haw) _);generalize wd.setCell ⟨ga,0,none⟩ (.func (.func 187) #[] #[.pointer (some ⟨gB,0,none⟩),.pointer (some ⟨gl,0,none⟩),.pointer (some ⟨ga,0,none⟩)])=we at *;clear hst za fa BA EA BL EL BB2 b2 bm2 K2 X2 b1 f3 q3 q0 BB EB bb bm;obtain⟨N,hN⟩:∃N,N=(insL hs).length+1:=⟨_,rfl⟩;have hNn:N=hs.length+1:=by rw[hN,insL_len]
 have HSP:=lh (state_prog (insL hs) fs)
 rw[<-hN] at HSP;clear hN;obtain⟨RES,hRES⟩:∃RES,Hid (listP (insL hs) N fs ([],[])=RES):=⟨_,lh rfl⟩;rw[hRES.out] at HSP;rw[hSG.out] at HSP;have HFIN:=fun(w':World) (s:List Nat×List Nat) (A:Option Addr) (c:Nat) (hI:LsI w' w0 ⟨gl,gB,gl,ga,gb,gM⟩ gA gc hs.length H (mark+1) mp L s) (hA:AddI hs.length s) (hr:RES=s) (hK:KpP (fun b=>b=gb\/b=gM) w w') (ol:OwnS w' gl 3 1 A s.1.length c ((natsI s.1).map (Value.int .i64)))=>
  lh (show RetLs gb gM gA gc hs.length H (mark+1) mp L SG w (.returned (.slice A s.1.length c)) w' by
   obtain⟨h1,h2,h3,_,h6,⟨ms',h7,h8,h8'⟩,h9,h10,h11⟩:=hI;have e:s.1=SG:=by rw[<-hr];exact HSP.out
   rw[e] at ol ⊢;refine⟨A,c,ms',rfl,?_,fun b hb=>Nat.le_trans hlw (OwnS.row ol b hb),fun b hb=>(OwnS.blt ol hb).2,h6,h7,h8,fun i hi=>(h8' i hi).2,hK⟩;have hO:OwnI w' gl 3 A c (natsI SG):=by unfold OwnI;rw[natsI_len];exact ol
   refine IL.of_own hO (fun x hx=>?_);obtain⟨q,hq,rfl⟩:=List.mem_map.1 hx;have:=hA.lt q (by rw[e];exact hq);unfold I64;omega)
 have HFS:=lh hfs;have HF:=lh hF;have eg:=egList;have HADD:=fun(w':World) (s:List Nat×List Nat) (pc:Nat) (hI:LsI w' w0 ⟨gl,gB,gl,ga,gb,gM⟩ gA gc hs.length H (mark+1) mp L s) (hA:AddI hs.length s) (hp:pc<hs.length)=>lh (addC_any w0 gl gB gl ga gb gM gA gc hs runes caps hG hP H (mark+1) mp L N w' s pc hI hA om hp);have HINV:=fun(s:List Nat×List Nat) (pc:Nat) (hA:AddI hs.length s)=>lh (show AddI hs.length (addP (insL hs) N s pc).1 by
  have h:=(addP_inv (G:=insL hs) N s pc (by rw[insL_len];exact hA)).1;rw[insL_len] at h;exact h)
 clear hG hP hfs hF HSP
 go_upto_region 6 with fail
 go_loopw [19] (fun v wr=>∃(k:Nat) (s:List Nat×List Nat),v=.int .i64 k/\k<=fs.length/\Hid (LsI wr w0 ⟨gl,gB,gl,ga,gb,gM⟩ gA gc hs.length H (mark+1) mp L s)/\Hid (AddI hs.length s)/\Hid (listP (insL hs) N (fs.drop k) s=RES)/\Hid (KpP (fun b=>b=gb\/b=gM) w wr)) (fun v _=>fs.length-(intOf v).toNat)
 case atStart=>exact⟨0,([],[]),rfl,om,HI0,lh ⟨SeenOk.nil _,Nat.le_refl _,by simp⟩,hRES,HK0⟩
 case round=>
  obtain⟨k,s,rfl,hk,HI,HA,HL,HK⟩:=hrel;obtain⟨LA,lc,bl,ol⟩:=HI.out.bl;have HOL:=lh ol;have HBL:=lh bl;clear ol bl;by_cases hlt:k<fs.length
  ·have hkI:(k:Int)<fs.length:=om;have hkn:k<(natsI fs).length:=by rw[natsI_len];exact hlt
   obtain⟨fb,fo,hFA,cf⟩:=(HF.out wr HK.out).get hkn;have hFA':=hFA;subst hFA';have hnv:(natsI fs)[k]=(fs[k]:Int):=by simp[natsI]
   rw[hnv] at cf;have hx:=HFS.out _ (List.getElem_mem hlt);have hld:=lh (listP_done (G:=insL hs) (N:=N) (s:=s) hlt);generalize fs[k]=x at *;clear hnv hkn;have HC:=HADD wr s x HI.out HA.out hx;have HV:=HINV s x HA.out;have HRS:=HL.out;rw[hld.out] at HRS;obtain⟨r,hr⟩:∃r,Hid (addP (insL hs) N s x=r):=⟨_,lh rfl⟩;rw[hr.out] at HC HV HRS;obtain⟨s1,b1⟩:=r;have ca:wr.cell? ⟨ga,0,none⟩=some (.func (.func 187) #[] #[.pointer (some ⟨gB,0,none⟩),.pointer (some ⟨gl,0,none⟩),.pointer (some ⟨ga,0,none⟩)]):=HI.out.bA.cell 0;have HKC:=fun(w7:World) (k7:KpP (LsK ⟨gl,gB,gl,ga,gb,gM⟩ wr) wr w7)=>lh (KpP.chain HK.out k7 (fun i hi=>by
    rcases hi with hi|⟨hi,_⟩
    ·exact .inl (.inr hi)
    ·right
     simp only at hi
     omega))
   clear hld HL hr;by_cases hb:b1=true
   ·subst hb;have HR2:=lh (show listP (insL hs) N (fs.drop (k+1)) s1=RES by rw[<-HRS];rfl);clear HRS
    go_wp2_with (go_at_fn 187;refine HC.out.mono ?_;rintro e w7 ⟨rfl,h7,k7⟩)
    go_roundw
    case rel=>exact⟨k+1,s1,by go_num,om,lh h7,HV,HR2,HKC w7 k7⟩
    case measure=>simp[intOf];omega
   ·have hb2:b1=false:=by simpa using hb
    subst hb2;have HR2:=lh (show RES=s1 by rw[<-HRS];rfl);clear HRS
    go_upto_region 8 with fail
    go_upto_region 9 with fail
    refine HC.out.mono ?_;rintro e w7 ⟨rfl,h7,k7⟩;obtain⟨LA7,lc7,bl7,ol7⟩:=h7.bl;have cl7:w7.cell? ⟨gl,0,none⟩=some (.slice LA7 s1.1.length lc7):=bl7.cell 0;have HE:=HFIN w7 s1 LA7 lc7 h7 HV.out HR2.out (HKC w7 k7).out ol7;clear bl7 ol7 h7 k7 HC
    go_wp2_with fail
    go_ret
    exact HE.out
  ·have hkI:¬(k:Int)<fs.length:=om;obtain rfl:k=fs.length:=om;have HR2:Hid (RES=s):=lh (by
    have h9:=HL.out;rw[List.drop_length,listP] at h9;exact h9.symm)
   have cl:wr.cell? ⟨gl,0,none⟩=some (.slice LA s.1.length lc):=HBL.out.cell 0;have HE:=HFIN wr s LA lc HI.out HA.out HR2.out HK.out HOL.out;clear HL HADD HINV HFIN
   go_wp2_with fail
   go_ret
   exact HE.out
end
section
open Go.RowKit
open Go.ChangeMaps (setBlock)
attribute [local go_sem ↓] Go.wp_at_zero Go.wp_at_succ
theorem Kp.p2 {L:List Nat}{a b:World}(h:Kp L a b):KpP (·∈L) a b:=⟨h.os,h.tape,h.output,h.size,h.block⟩
theorem conv_own {w:World}{base c:Nat}{A:Option Addr}{bs:List Int}(h:OwnS w base 5 1 A bs.length c (bs.map (Value.int .u8)))(hn:bs≠[]) :
 (convert 299 9 (.slice A bs.length c)).run Tryz.prog w=.ok (.string (strOfNums bs)) w:=by
 have hu:Tryz.prog.underlying 5=some (.int .u8):=by kernel_rfl
 have hs:Tryz.prog.underlying 9=some .string:=by kernel_rfl
 obtain⟨b,o,rfl,hc⟩:=OwnS.cells h (by simpa using hn);have hl:(loadCells ⟨b,o,none⟩ bs.length).run Tryz.prog w=.ok (bs.map (Value.int .u8)).toArray w:=by
  have h2:=run_loadCells_list (P:=Tryz.prog) w ⟨b,o,none⟩ (bs.map (Value.int .u8)) (fun j v hj=>by
   obtain⟨hj1,hj2⟩:=List.getElem?_eq_some_iff.1 hj;rw[Addr.add_lit,hc j hj1,<-hj2])
  rw[List.length_map] at h2;exact h2
 rw[run_convert_bytes_string w _ _ _ (some ⟨b,o,none⟩) _ c Tryz.underlying299 hu hs,run_bytesToString w _ _ c bs hl,foldl_push_bytes];simp[strOfNums,ByteArray.empty,ByteArray.emptyWithCapacity]
 rfl
theorem exec_convO {w:World}{base c:Nat}{A:Option Addr}{bs:List Int}(h:OwnS w base 5 1 A bs.length c (bs.map (Value.int .u8)))(hn:bs≠[]){o:Oper}{ρ:Operand->Value}(x:Operand)(ho:o.op=.convert 299 9 x)(hx:ρ x=.slice A bs.length c)
 {S:ByteArray} (hS:S=strOfNums bs):(execOp ρ o).run Tryz.prog w=.ok (.value (.string S)) w:=by
 subst hS;unfold execOp;simp only[ho,hx,Sem.run_bind,conv_own h hn,Result.andThen_ok,Sem.run_pure]
def kmap (L:List (List Nat)):List (ByteArray×Int):=L.zipIdx.map (fun p=>(keyS p.1,(p.2:Int)))
theorem kmap_at {L:List (List Nat)}(hL:∀l∈L,∀i∈l,i<65536){l:List Nat}(hl:∀i∈l,i<65536):at? (kmap L) (keyS l)=if l∈L then some (L.idxOf l:Int) else none:=by
 have h:=keyS_find hL hl;unfold at? kmap;have e:(L.zipIdx.map (fun p=>(keyS p.1,(p.2:Int)))).find? (fun p=>@BEq.beq ByteArray instBEqOfDecidableEq p.1 (keyS l))=(L.zipIdx.map (fun p=>(keyS p.1,(p.2:Int)))).find? (fun p=>decide (p.1=keyS l)):=rfl;rw[e,h]
 split<;>rfl
theorem kmap_snoc (L:List (List Nat))(l:List Nat):kmap (L++[l])=kmap L++[(keyS l,(L.length:Int))]:=by
 unfold kmap;rw[List.zipIdx_append,List.map_append]
 simp
theorem kmap_put {L:List (List Nat)}{l:List Nat}(h:at? (kmap L) (keyS l)=none)(n:Int)(hn:n=L.length):putL (kmap L) (keyS l) n=kmap (L++[l]):=by
 subst hn;rw[kmap_snoc];unfold putL;have:(kmap L).any (fun p=>@BEq.beq ByteArray instBEqOfDecidableEq p.1 (keyS l))=false:=by
  rw[List.any_eq_false];intro p hp hq;unfold at? at h;rw[Option.map_eq_none_iff,List.find?_eq_none] at h;exact h p hp hq
 rw[this]
 rfl
structure NmI (wr:World)(base gb gm gM:Nat)(LA:Option Addr)(Lc:Nat)(sts:List Hl):Prop where
 map:MapAt wr gm Value.string (Value.int .i32) (kmap (stsOf sts))
 own:OwnS wr base 22 1 LA sts.length Lc (flatL sts)
 il:∀z∈sts,IL wr z.A z.c (castL z.l)
 ty:∀z∈sts,TyI wr z.A
 nM:∀z∈sts,z.A.map (·.block)≠some gM
 lt:∀z∈sts,∀i∈z.l,i<65536
theorem NmI.ext {wr w':World}{base gb gm gM:Nat}{LA:Option Addr}{Lc:Nat}{sts:List Hl}(h:NmI wr base gb gm gM LA Lc sts)(x:Ext wr w'):NmI w' base gb gm gM LA Lc sts:=
 ⟨h.map.ext x,OwnS.ext h.own x,fun z hz=>(h.il z hz).ext x,fun z hz=>(h.ty z hz).ext x,h.nM,h.lt⟩
theorem NmI.lt2 {wr:World}{base gb gm gM:Nat}{LA:Option Addr}{Lc:Nat}{sts:List Hl}(h:NmI wr base gb gm gM LA Lc sts):∀l∈stsOf sts,∀i∈l,i<65536:=fun l hl=>by
 obtain⟨z,hz,rfl⟩:=List.mem_map.1 hl;exact h.lt z hz
theorem mkCap (n:Nat)(h:n<=500000)(W:World):(Instr.makeSlice 299 (.int .i64 0) (.int .i64 (2*(n:Int)))).run Tryz.prog W=.ok (.slice (some ⟨W.heap.size,0,none⟩) 0 (2*n)) (W.alloc (.cells (Array.replicate (2*n) (.int .u8 0)) 5)):=by
 have hi:(Tryz.prog.info? 5).map (fun i=>(i.zero,i.size,i.bytes))=some (some (.int .u8 0),1,1):=by kernel_rfl
 obtain⟨i0,hi0,hz0,hz1,hz2⟩:=info_parts hi;have e:(2*(n:Int))=((2*n:Nat):Int):=om;rw[e];have:=run_make (P:=Tryz.prog) W 299 5 i0 (.int .u8 0) Tryz.underlying299 hi0 hz0 .i64 .i64 0 ((2*n:Nat):Int) om om (by rw[hz2];omega) om;rw[this,hz1];simp only[Int.toNat_natCast,Value.cells];rw[madeCells_one]
 simp
theorem keyB_snoc {l:List Nat}{k:Nat}(hk:k<l.length):keyB (l.take (k+1))=keyB (l.take k)++[((l[k] / 256 % 256:Nat):Int),((l[k] % 256:Nat):Int)]:=by
 unfold keyB;rw[List.take_add_one,List.getElem?_eq_getElem hk,List.flatMap_append]
 simp
def RetNum (base gb gm gM:Nat)(gA:Option Addr)(gn gc:Nat)(H M:Value)(mark:Int)(LA:Option Addr)(sts:List Hl)(l:List Nat)(w:World)(e:Ending)(w':World):Prop:=
 ∃(LA':Option Addr) (Lc':Nat) (sts':List Hl),e=.returned (.int .i32 (idx (stsOf sts') l))/\stsOf sts'=grow (stsOf sts) l/\Blk w' gb 150 (gbCells gA gn gc H M mark (.map (some gm)) (.slice LA' sts'.length Lc'))/\
  NmI w' base gb gm gM LA' Lc' sts'/\KpP (fun b=>b=gb\/b=gm\/LA.map (·.block)=some b) w w'
theorem infoSI:(Tryz.prog.info? 22).map (fun i=>(i.zero,i.size,i.bytes))=some (some (.slice none 0 0),1,24):=by kernel_rfl
theorem zI32:∀W:World,(zeroValue 21).run Tryz.prog W=.ok (.int .i32 0) W:=fun W=>by
 obtain⟨i0,h0,h1,h2,h3⟩:=info_parts infoK;simp[zeroValue,typeInfo,h0,h1]
theorem NmI.put {w5 w8:World}{base gb gm gM:Nat}{LA A8 A:Option Addr}{Lc c8 c n:Nat}{sts:List Hl}{l:List Nat}{v:Value}{cs:Array Value}
 (hmap:MapAt w5 gm Value.string (Value.int .i32) (kmap (stsOf sts++[l]))) (own:OwnS w5 base 22 1 LA sts.length Lc (flatL sts)) (il:∀z∈sts++[⟨A,c,l⟩],IL w5 z.A z.c (castL z.l)) (ty:∀z∈sts++[⟨A,c,l⟩],TyI w5 z.A) (nM:∀z∈sts++[⟨A,c,l⟩],z.A.map (·.block)≠some gM) (lt:∀z∈sts++[⟨A,c,l⟩],∀i∈z.l,i<65536)
 (bb:Blk w5 gb 150 cs) (hg:(w5.alloc (.cells #[.slice A n c] 22)).grownBy w8 (LA.map (·.block))) (hn:n=l.length)
 (ho:OwnS w8 base 22 1 A8 (sts.length+1) c8 (flatL sts++[.slice A n c])) :
 NmI (w8.setCell ⟨gb,5,none⟩ v) base gb gm gM A8 c8 (sts++[⟨A,c,l⟩]):=by
 subst hn;have X:=Ext.alloc w5 (.cells #[.slice A l.length c] 22);have k:=KpP.of_grown hg;have ox:=OwnS.ext own X;have bb8:=k.blk (bb.ext X) (own_blk ox (bb.ext X) de);have m8:MapAt w8 gm Value.string (Value.int .i32) (kmap (stsOf sts++[l])):=(hmap.ext X).kp k (fun e=>by
  obtain⟨_,cur,hh⟩:=OwnS.blt ox e;obtain⟨es,cl,h2,_⟩:=hmap.ext X;rw[hh] at h2;cases h2)
 have hmb:gm≠gb:=m8.ne bb8;have e1:(sts++[(⟨A,c,l⟩:Hl)]).length=sts.length+1:=by simp
 have e2:flatL (sts++[(⟨A,c,l⟩:Hl)])=flatL sts++[.slice A l.length c]:=by simp[flatL,castL]
 have e3:stsOf (sts++[(⟨A,c,l⟩:Hl)])=stsOf sts++[l]:=by simp[stsOf]
 have kk:KpP (·=gb) w8 (w8.setCell ⟨gb,5,none⟩ v):=KpP.set (p:=(·=gb)) (x:=⟨gb,5,none⟩) (KpP.refl _ _) (.inl rfl) v;have hp1:=own_notI ox de;have hp2:=blk_notI bb8 de;refine⟨?_,?_,fun z hz=>?_,fun z hz=>?_,nM,lt⟩
 ·rw[e3];exact m8.kp kk hmb
 ·rw[e1,e2];exact OwnS.far ho (own_blk ho bb8 de) _
 ·have t8:=((ty z hz).ext X).kp k hp1;exact(((il z hz).ext X).kpT ((ty z hz).ext X) k hp1).kpT t8 kk hp2
 ·exact(((ty z hz).ext X).kp k hp1).kp kk hp2
theorem number_any (w:World)(base gb gm gM:Nat)(hbase:base<=w.heap.size)(gA:Option Addr)(gn gc:Nat)(H M:Value)(mark:Int)(LA:Option Addr)(Lc:Nat)(sts:List Hl)(hsn:sts.length<=100000)
 (bb:Blk w gb 150 (gbCells gA gn gc H M mark (.map (some gm)) (.slice LA sts.length Lc))) (hN:NmI w base gb gm gM LA Lc sts)
 (A:Option Addr) (c:Nat) (l:List Nat) (hl:IL w A c (natsI l)) (hll:l.length<=10000) (hlt:∀i∈l,i<65536) (hty:TyI w A) (hnM:A.map (·.block)≠some gM) :
 Calls Tryz.prog 138 #[.pointer (some ⟨gb,0,none⟩),.slice A l.length c] w (RetNum base gb gm gM gA gn gc H M mark LA sts l w):=by
 have hcap:=hl.len;rw[natsI_len] at hcap;have hiU:(Tryz.prog.info? 5).map (fun i=>(i.zero,i.size,i.bytes))=some (some (.int .u8 0),1,1):=by kernel_rfl
 obtain⟨iU,jU0,jU1,jU2,jU3⟩:=info_parts hiU;clear hiU;have HLI:=lh hl;have hmk:=mkCap l.length om;have hmul:IntKind.i64.wrap (2*(l.length:Int))=2*(l.length:Int):=wj;clear hl;by_cases h0:l.length=0
 ·obtain rfl:l=[]:=List.length_eq_zero_iff.1 h0;have HI:Hid (idx (stsOf sts) [] = -1):=lh (by simp[idx]);have HGr:Hid (stsOf sts=grow (stsOf sts) []):=lh (by simp[grow]);clear h0 hmk hmul;go_enter Tryz.func138,Tryz.ntmps138
  go_wp2_with fail
  go_ret
  exact⟨LA,Lc,sts,by rw[HI.out];rfl,HGr.out,bb,hN,KpP.refl _ _⟩
 ·have h0b:((l.length:Int) == 0)=false:=by rw[beq_eq_false_iff_ne];omega
  go_enter Tryz.func138,Tryz.ntmps138
  go_upto_region 4 with fail
  have BK:=Blk.new w 5 (Array.replicate (2*l.length) (.int .u8 0));have EK:=Ext.alloc w (.cells (Array.replicate (2*l.length) (.int .u8 0)) 5);generalize w.alloc (.cells (Array.replicate (2*l.length) (.int .u8 0)) 5)=w1 at *;obtain⟨gK,hgK⟩:∃gK,gK=w.heap.size:=⟨_,rfl⟩
  rw[<-hgK] at BK ⊢;have OK0:OwnS w1 gK 5 1 (some ⟨gK,0,none⟩) 0 (2*l.length) []:=by
   have:=OwnS.of_blk (base:=gK) (size:=1) (n:=0) (c:=2*l.length) BK (Nat.le_refl _) si (Nat.zero_le _) um
   simpa using this
  have HGK:=lh hgK;clear hgK hmk
  go_upto_region 5 with fail
  go_loopw [5,19] (fun v5 v19 wr=>∃(k:Nat) (B:Option Addr) (d:Nat),v19=.int .i64 k/\k<=l.length/\v5=.slice B (2*k) d/\Hid (OwnS wr gK 5 1 B (2*k) d ((keyB (l.take k)).map (Value.int .u8)))/\Ext w wr) (fun _ v _=>l.length-(intOf v).toNat)
  case atStart=>exact⟨0,some ⟨gK,0,none⟩,2*l.length,rfl,om,rfl,lh OK0,EK⟩
  case round=>
   obtain⟨k,B,d,rfl,hk,rfl,HB,x1⟩:=hrel;by_cases hlt2:k<l.length
   ·have hkI:(k:Int)<l.length:=om;obtain⟨fb,fo,hA,cf⟩:=(HLI.out.ext x1).get (k:=k) (by rw[natsI_len];exact hlt2);have hA':=hA;subst hA';have hnv:(natsI l)[k]'(by rw[natsI_len];exact hlt2)=(l[k]:Int):=by simp[natsI]
    rw[hnv] at cf;have HS:=lh (keyB_snoc hlt2);have hx:=hlt _ (List.getElem_mem hlt2);generalize l[k]=x at *;clear hnv;have HS2:=lh (show keyB (l.take (k+1))=keyB (l.take k)++[(x:Int) / 256,(x:Int) % 256] by
     rw[HS.out]
     congr 1
     have e1:((x / 256 % 256:Nat):Int)=(x:Int) / 256:=om;have e2:((x % 256:Nat):Int)=(x:Int) % 256:=om;rw[e1,e2])
    have hgw:gK<=wr.heap.size:=by rw[HGK.out];exact x1.size
    clear HS
    go_wp2_with ((at_builtin;refine wpList_app _ rfl _ _ _ rfl gK 5 iU (.int .u8 0) 1 1 Tryz.underlying299 jU0 jU1 jU2 jU3 rfl om B (2*k) d ((keyB (l.take k)).map (Value.int .u8)) rfl (OwnS.ext HB.out (Ext.alloc _ _)) _ 2 2 [.int .u8 ((x:Int) / 256),.int .u8 ((x:Int) % 256)] rfl rfl (blk_cells (Blk.new _ _ _)) (by intro u hu;simp only[List.mem_cons,List.not_mem_nil,or_false] at hu;rcases hu with rfl|rfl<;>rfl) um om (Nat.le_trans hgw (Ext.alloc _ _).size) ?_;intro B8 d8 w8 ho8 hg8 hat8))
    have e8:Ext w w8:=(x1.trans (Ext.alloc _ _)).grown hg8 (fun i hi=>by rw[<-HGK.out];exact OwnS.row HB.out _ hi);have HB8:=lh (show OwnS w8 gK 5 1 B8 (2*(k+1)) d8 ((keyB (l.take (k+1))).map (Value.int .u8)) by
     rw[HS2.out,List.map_append];exact ho8)
    go_roundw
    case rel=>exact⟨k+1,B8,d8,by go_num,om,rfl,HB8,e8⟩
    case measure=>simp[intOf];omega
   ·have hkI:¬(k:Int)<l.length:=om;obtain rfl:k=l.length:=om;rw[List.take_length] at HB;have hne:keyB l≠[]:=fun e=>by
     have:=keyB_len l;rw[e] at this;simp only[List.length_nil] at this;omega
    have HOK:=fun(w':World) (x:Ext wr w')=>lh (show OwnS w' gK 5 1 B (keyB l).length d ((keyB l).map (Value.int .u8)) by rw[keyB_len];exact OwnS.ext HB.out x);have HKL:=lh (keyB_len l);have HKS:Hid (keyS l=strOfNums (keyB l)):=lh rfl;have HNr:=lh (hN.ext x1);have HBr:=lh (bb.ext x1);have q4:wr.cell? ⟨gb,4,none⟩=some (.map (some gm)):=HBr.out.cell 4;have hat:=kmap_at hN.lt2 hlt;have HLK:=fun(w':World) (x:Ext wr w')=>lh ((HNr.out.map.ext x).look (str_klaw Tryz.underlying9) Tryz.underlying147 (zI32 w') (keyS l)).2;rw[hat] at HLK;have HAT:=lh hat;obtain⟨S,hS⟩:∃S,Hid (keyS l=S):=⟨_,lh rfl⟩;rw[hS.out] at HLK HKS;clear hat;by_cases hm:l∈stsOf sts
    ·rw[if_pos hm] at HLK;simp only[Option.map_some,Option.getD_some,Option.isSome_some] at HLK;have HI:Hid (idx (stsOf sts) l=((stsOf sts).idxOf l:Nat)):=lh (by unfold idx;rw[if_neg (by rintro rfl;simp at h0)]);have HGr:Hid (stsOf sts=grow (stsOf sts) l):=lh (by unfold grow;rw[if_pos (.inr hm)]);have jq:=kc0 q4;have jl:=fun(w':World) (h:Kp [] wr w')=>(HLK w' h.nil).out;clear HAT hm
     go_upto_region 9 with fail
     refine Xr.start [] kr ?_;refine Xtk 0 ?_
     iterate 4(refine Xtn ?_)
     refine Xr.take 5 (some 38) (v:=.string S) rfl rfl dK (by rfl) (fun w' hk=>exec_convO (HOK w' hk.nil).out hne _ rfl (by rw[HKL.out];go_simp) HKS.out) ?_;refine ptm ?_;refine Xtk 6 ?_
     iterate 5(refine Xtn ?_)
     refine Xdn fun w9 hE9 hK9=>?_;clear jq jl HLK
     go_wp2_with fail
     go_ret
     exact⟨LA,Lc,sts,by rw[HI.out];rfl,HGr.out,HBr.out.ext hE9,HNr.out.ext hE9,KpP.of_ext (x1.trans hE9)⟩
    ·rw[if_neg hm] at HLK;have hat0:=HAT.out;rw[if_neg hm] at hat0;simp only[Option.map_none,Option.getD_none,Option.isSome_none] at HLK;have hln:l≠[]:=by rintro rfl;simp at h0
     have HE3:Hid (stsOf (sts++[(⟨A,c,l⟩:Hl)])=stsOf sts++[l]):=lh (by simp[stsOf]);have HGr:Hid (stsOf (sts++[(⟨A,c,l⟩:Hl)])=grow (stsOf sts) l):=lh (by
      rw[HE3.out];unfold grow;rw[if_neg (by rintro(h|h);exact hln h;exact hm h)])
     have HI:Hid (idx (stsOf (sts++[(⟨A,c,l⟩:Hl)])) l=(sts.length:Nat)):=lh (by
      rw[HE3.out];unfold idx;rw[if_neg hln,List.idxOf_append,if_neg hm];simp[stsOf])
     have HKP:=lh (kmap_put hat0 (sts.length:Int) (by rw[stsOf_len]));rw[hS.out] at HKP;have jq:=kc0 q4;have jl:=fun(w':World) (h:Kp [] wr w')=>(HLK w' h.nil).out;have hsw:IntKind.i32.wrap (sts.length:Int)=sts.length:=by rw[IntKind.wrap_i32];omega
     clear HAT hm hat0 HE3 hln
     go_upto_region 9 with fail
     refine Xr.start [] kr ?_;refine Xtk 0 ?_
     iterate 4(refine Xtn ?_)
     refine Xr.take 5 (some 38) (v:=.string S) rfl rfl dK (by rfl) (fun w' hk=>exec_convO (HOK w' hk.nil).out hne _ rfl (by rw[HKL.out];go_simp) HKS.out) ?_;refine ptm ?_;refine Xtk 6 ?_
     iterate 5(refine Xtn ?_)
     refine Xdn fun w9 hE9 hK9=>?_;clear jq jl HLK;have HB9:=lh (HBr.out.ext hE9);have HN9:=lh (HNr.out.ext hE9);have X9:=x1.trans hE9;have HOK9:=fun(w':World) (x:Ext w9 w')=>HOK w' (hE9.trans x);have hgmb:gm≠gb:=HN9.out.map.ne HB9.out;have q5:w9.cell? ⟨gb,5,none⟩=some (.slice LA sts.length Lc):=HB9.out.cell 5;have q49:w9.cell? ⟨gb,4,none⟩=some (.map (some gm)):=HB9.out.cell 4;have hLc:=OwnS.caps HN9.out.own;clear HOK HNr HBr q4 hE9 hK9;have jq:=fun(w':World) (h:Kp [gm] w9 w')=>h.cell q49 (by simpa using hgmb.symm)
     go_upto_region 12 with fail
     have hBg:∀b,B.map (·.block)=some b->b≠gm:=fun b hb e=>by
      subst e;obtain⟨_,cur,hh⟩:=OwnS.blt (HOK9 w9 (Ext.rfl' _)).out hb;obtain⟨es,cl,h2,_⟩:=HN9.out.map;rw[hh] at h2;cases h2
     refine Xr.start [gm] kr ?_;refine Xtk 0 ?_
     iterate 4(refine Xtn ?_)
     refine Xr.take 5 (some 55) (v:=.string S) rfl rfl dK (by rfl) (fun w' hk=>exec_convO (OwnS.kp (HOK9 w9 (Ext.rfl' _)).out hk.p2 (fun b hb he=>hBg b hb (by simpa using he))) hne _ rfl (by rw[HKL.out];go_simp) HKS.out) ?_;refine ptm ?_;refine Xtk 6 ?_;refine Xsp 7 fun w4 hE4 hK4 K hKK=>?_;refine Exists.elim ((HN9.out.map.ext hE4).put (str_klaw Tryz.underlying9) Tryz.underlying147 S (sts.length:Int)) (fun o ho=>?_);have ho1:=ho.1;go_simp;have kS:=kp_setBlock w4 gm o;refine hKK _ _ (WI_kpP kS List.mem_cons_self) (hK4.thenP kS List.mem_cons_self) ?_;clear hKK ho1;have hM5:=ho.2;generalize setBlock w4 gm o=w5 at *;refine ptm ?_;refine Xdn fun w6 hE6 hK6=>?_;rw[HKP.out] at hM5;have kA:KpP (·=gm) w9 w6:=(KpP.trans (KpP.of_ext hE4) kS).trans (KpP.of_ext hE6);have hM6:=lh (hM5.ext hE6);clear ho hM5 kS jq hE4 hK4 hE6 q49;have HB6:=lh (kA.blkN HB9.out hgmb.symm);have hgm1:∀b,b=gm->∀cur,w9.heap[b]?≠some (.cells cur 3 (0,0)):=fun b hb cur hh=>by
      subst hb;obtain⟨es,cl,h2,_⟩:=HN9.out.map;rw[hh] at h2;cases h2
     have HO6:=lh (OwnS.kp HN9.out.own kA (fun b hb e=>by
      have e2:b=gm:=e;subst e2;obtain⟨_,cur,hh⟩:=OwnS.blt HN9.out.own hb;obtain⟨es,cl,h2,_⟩:=HN9.out.map;rw[hh] at h2;cases h2))
     have tyA:=hty.ext X9;have HIL6:Hid (∀z∈sts++[(⟨A,c,l⟩:Hl)],IL w6 z.A z.c (castL z.l)/\TyI w6 z.A):=lh (fun z hz=>by
      rcases List.mem_append.1 hz with hz|hz
      ·exact⟨(HN9.out.il z hz).kpT (HN9.out.ty z hz) kA hgm1,(HN9.out.ty z hz).kp kA hgm1⟩
      ·have e:z=⟨A,c,l⟩:=by simpa using hz
       subst e;exact⟨(HLI.out.ext X9).kpT tyA kA hgm1,tyA.kp kA hgm1⟩)
     have HnM:Hid (∀z∈sts++[(⟨A,c,l⟩:Hl)],z.A.map (·.block)≠some gM):=lh (fun z hz=>by
      rcases List.mem_append.1 hz with hz|hz
      ·exact HN9.out.nM z hz
      ·have e:z=⟨A,c,l⟩:=by simpa using hz
       subst e;exact hnM)
     have Hlt:Hid (∀z∈sts++[(⟨A,c,l⟩:Hl)],∀i∈z.l,i<65536):=lh (fun z hz=>by
      rcases List.mem_append.1 hz with hz|hz
      ·exact HN9.out.lt z hz
      ·have e:z=⟨A,c,l⟩:=by simpa using hz
       subst e;exact hlt)
     have HK6:Hid (KpP (fun b=>b=gb\/b=gm\/LA.map (·.block)=some b) w w6):=lh ((KpP.of_ext X9).trans (KpP.mono kA (fun i hi=>.inr (.inl hi))));have hb6:base<=w6.heap.size:=by have:=X9.size;have:=kA.size;omega
     have c6:w6.cell? ⟨gb,5,none⟩=some (.slice LA sts.length Lc):=HB6.out.cell 5;obtain⟨iS,jS0,jS1,jS2,jS3⟩:=info_parts infoSI;have EP:=Ext.alloc w6 (.cells #[.slice A l.length c] 22);have HBL:=fun(w8:World) (hg:(w6.alloc (.cells #[.slice A l.length c] 22)).grownBy w8 (LA.map (·.block)))=>(KpP.of_grown hg).blk (HB6.out.ext EP) (own_blk (OwnS.ext HO6.out EP) (HB6.out.ext EP) de);clear HN9 HB9 kA hgm1 hBg HOK9 tyA HB q5 hK6
     go_wp2_with ((at_builtin;refine wpList_app _ rfl _ _ _ rfl base 22 iS (.slice none 0 0) 1 24 Tryz.underlying42 jS0 jS1 jS2 jS3 rfl om LA sts.length Lc (flatL sts) rfl (OwnS.ext HO6.out (Ext.alloc _ _)) _ 1 1 [.slice A l.length c] rfl rfl (blk_cells (Blk.new _ _ _)) (by intro u hu;simp only[List.mem_cons,List.not_mem_nil,or_false] at hu;rcases hu with rfl;rfl) um om (Nat.le_trans hb6 (Ext.alloc _ _).size) ?_;intro A8 c8 w8 ho8 hg8 hat8;have cl8:=(HBL w8 hg8).cell 5;have fl8:=(HBL w8 hg8).frz 5))
     have hb8:=(HBL w8 hg8).set 5 (.slice A8 (sts.length+1) c8);have hF:=NmI.put (v:=.slice A8 (sts.length+1) c8) hM6.out HO6.out (fun z hz=>(HIL6.out z hz).1) (fun z hz=>(HIL6.out z hz).2) HnM.out Hlt.out HB6.out hg8 rfl ho8;have hk8:KpP (fun b=>b=gb\/b=gm\/LA.map (·.block)=some b) w (w8.setCell ⟨gb,5,none⟩ (.slice A8 (sts.length+1) c8)):=
      KpP.set (x:=⟨gb,5,none⟩) ((HK6.out.trans (KpP.of_ext EP)).trans (KpP.mono (KpP.of_grown hg8) (fun i hi=>.inr (.inr hi)))) (.inl (.inl rfl)) _
     have HL1:=lh (show(sts++[(⟨A,c,l⟩:Hl)]).length=sts.length+1 by simp);have HF:=lh hF;have HB8:=lh hb8;have HK8:=lh hk8;clear hF hb8 hk8 cl8 fl8 ho8 hg8 hat8 HBL
     go_wp2_with fail
     go_ret
     exact⟨A8,c8,sts++[⟨A,c,l⟩],by rw[HI.out];rfl,HGr.out,by rw[HL1.out];simpa[gbCells] using HB8.out,HF.out,HK8.out⟩
end
section
open Go.RowKit
attribute [local go_sem ↓] Go.wp_at_zero Go.wp_at_succ
structure BP where
 base:Nat
 gb:Nat
 gm:Nat
 gM:Nat
 gH:Nat
structure BS (wr w0:World)(p:BP)(gA:Option Addr)(gc:Nat)(hs:List Hin)(cs:List Int)(rows:List Kb)(mark:Int)(LA:Option Addr)(Lc:Nat)(sts:List Hl):Prop where
 ext:Ext w0 wr
 bb:Blk wr p.gb 150 (gbCells gA hs.length gc (.slice (some ⟨p.gH,0,none⟩) hs.length hs.length) (.slice (some ⟨p.gM,0,none⟩) hs.length hs.length) mark (.map (some p.gm)) (.slice LA sts.length Lc))
 bh:Blk wr p.gH 81 (rowsC rows)
 ro:RowsOk wr hs cs hs.length rows
 bm:∃ms,Blk wr p.gM 3 (iInts ms)/\ms.length=hs.length/\∀i,i<hs.length->ms.getD i 0<=mark
 nm:NmI wr p.base p.gb p.gm p.gM LA Lc sts
 lo:w0.heap.size<=p.base/\w0.heap.size<=p.gb/\w0.heap.size<=p.gm/\w0.heap.size<=p.gM/\w0.heap.size<=p.gH
 bs:p.base<=wr.heap.size
theorem RowsOk.kpT {w w':World}{hs:List Hin}{cs:List Int}{i:Nat}{rows:List Kb}{p:Nat->Prop}(h:RowsOk w hs cs i rows)(k:KpP p w w')(hp:∀b,p b->∀cur,w.heap[b]?≠some (.cells cur 4 (0,0))):RowsOk w' hs cs i rows:=
 ⟨h.len,h.val,fun q hq hqi=>(h.ib q hq hqi).kpT (h.ty q hq hqi) k hp,fun q hq hqi=>(h.ty q hq hqi).kp k hp,h.nil⟩
theorem blk_notB {w:World}{g T:Nat}{cs:Array Value}(h:Blk w g T cs)(hT:T≠4):∀cur,w.heap[g]?≠some (.cells cur 4 (0,0)):=fun cur hh=>by
 unfold Blk at h;rw[h] at hh;injection hh with hh;injection hh with _ h3
 exact hT h3
theorem map_notT {α β:Type}{w:World}{g T:Nat}{kv:α->Value}{vv:β->Value}{l:List (α×β)}(h:MapAt w g kv vv l):∀cur,w.heap[g]?≠some (.cells cur T (0,0)):=fun cur hh=>by
 obtain⟨es,cl,h2,_⟩:=h;rw[hh] at h2;cases h2
theorem own_notT {w:World}{base e s n c T:Nat}{A:Option Addr}{xs:List Value}(h:OwnS w base e s A n c xs)(he:e≠T){b:Nat}(hb:A.map (·.block)=some b):∀cur,w.heap[b]?≠some (.cells cur T (0,0)):=fun cur hh=>by
 obtain⟨_,cur2,h2⟩:=OwnS.blt h hb;rw[h2] at hh;injection hh with hh;injection hh with _ h3
 exact he h3
namespace BS
variable {wr w' w0:World} {p:BP} {gA LA:Option Addr} {gc Lc:Nat} {hs:List Hin} {cs:List Int} {rows:List Kb} {mark:Int} {sts:List Hl}
theorem extW (h:BS wr w0 p gA gc hs cs rows mark LA Lc sts)(x:Ext wr w'):BS w' w0 p gA gc hs cs rows mark LA Lc sts:=by
 obtain⟨h1,h2,h3,h4,⟨ms,h5,h6⟩,h7,h8,h9⟩:=h;exact⟨h1.trans x,h2.ext x,h3.ext x,h4.kpT (p:=fun _=>False) (KpP.of_ext x) (fun _ h=>h.elim),⟨ms,h5.ext x,h6⟩,h7.ext x,h8,Nat.le_trans h9 x.size⟩
theorem list (h:BS wr w0 p gA gc hs cs rows mark LA Lc sts){ms:List Int}{mark':Int}
 (bb:Blk w' p.gb 150 (gbCells gA hs.length gc (.slice (some ⟨p.gH,0,none⟩) hs.length hs.length) (.slice (some ⟨p.gM,0,none⟩) hs.length hs.length) mark' (.map (some p.gm)) (.slice LA sts.length Lc)))
 (bm:Blk w' p.gM 3 (iInts ms)) (hml:ms.length=hs.length) (hms:∀i,i<hs.length->ms.getD i 0<=mark') (k:KpP (fun b=>b=p.gb\/b=p.gM) wr w'):BS w' w0 p gA gc hs cs rows mark' LA Lc sts:=by
 obtain⟨h1,h2,h3,h4,⟨ms0,h5,h6⟩,h7,h8,h9⟩:=h;have hn:∀{T:Nat},T≠150->T≠3->∀b,(b=p.gb\/b=p.gM)->∀cur,wr.heap[b]?≠some (.cells cur T (0,0)):=fun hT1 hT2 b hb cur hh=>by
  rcases hb with rfl|rfl
  ·unfold Blk at h2;rw[h2] at hh;injection hh with hh;injection hh with _ h3;exact hT1 h3.symm
  ·unfold Blk at h5;rw[h5] at hh;injection hh with hh;injection hh with _ h3;exact hT2 h3.symm
 have hbk:∀{g T:Nat} {cs:Array Value},Blk wr g T cs->T≠150->T≠3->Blk w' g T cs:=fun hb hT1 hT2=>(k.block _ hb.lt (fun hq=>hn hT1 hT2 _ hq _ hb)).trans hb;have hmb:p.gm≠p.gb:=h7.map.ne h2;have hmM:p.gm≠p.gM:=h7.map.ne h5;refine⟨h1.thenP k (fun i hi=>?_),bb,hbk h3 de de,h4.kpT k (hn de de),⟨ms,bm,hml,hms⟩,⟨h7.map.kp k (fun e=>e.elim hmb hmM),OwnS.kp h7.own k (fun b hb hq=>?_),fun z hz=>?_,fun z hz=>?_,h7.nM,h7.lt⟩,h8,Nat.le_trans h9 k.size⟩
 ·rcases hi with rfl|rfl
  ·exact h8.2.1
  ·exact h8.2.2.2.1
 ·obtain⟨_,cur,hh⟩:=OwnS.blt h7.own hb;exact hn de de b hq cur hh
 ·refine IL.kp (h7.il z hz) k (fun _ b hb hq=>?_);obtain⟨cur,hh⟩:=h7.ty z hz b hb;rcases hq with rfl|rfl
  ·unfold Blk at h2;rw[h2] at hh;injection hh with hh;injection hh with _ h3;revert h3;decide
  ·exact h7.nM z hz hb
 ·intro b hb;obtain⟨cur,hh⟩:=h7.ty z hz b hb;refine⟨cur,(k.block b (Array.getElem?_eq_some_iff.1 hh).1 (fun hq=>?_)).trans hh⟩;rcases hq with rfl|rfl
  ·unfold Blk at h2;rw[h2] at hh;injection hh with hh;injection hh with _ h3;revert h3;decide
  ·exact h7.nM z hz hb
theorem num (h:BS wr w0 p gA gc hs cs rows mark LA Lc sts){LA':Option Addr}{Lc':Nat}{sts':List Hl}
 (bb:Blk w' p.gb 150 (gbCells gA hs.length gc (.slice (some ⟨p.gH,0,none⟩) hs.length hs.length) (.slice (some ⟨p.gM,0,none⟩) hs.length hs.length) mark (.map (some p.gm)) (.slice LA' sts'.length Lc')))
 (nm:NmI w' p.base p.gb p.gm p.gM LA' Lc' sts') (k:KpP (fun b=>b=p.gb\/b=p.gm\/LA.map (·.block)=some b) wr w'):BS w' w0 p gA gc hs cs rows mark LA' Lc' sts':=by
 obtain⟨h1,h2,h3,h4,⟨ms0,h5,h6⟩,h7,h8,h9⟩:=h;have hn:∀{T:Nat},T≠150->T≠22->∀b,(b=p.gb\/b=p.gm\/LA.map (·.block)=some b)->∀cur,wr.heap[b]?≠some (.cells cur T (0,0)):=fun hT1 hT2 b hb cur hh=>by
  rcases hb with rfl|rfl|hb
  ·unfold Blk at h2;rw[h2] at hh;injection hh with hh;injection hh with _ h3;exact hT1 h3.symm
  ·exact map_notT h7.map cur hh
  ·exact own_notT h7.own (fun e=>hT2 e.symm) hb cur hh
 have hbk:∀{g T:Nat} {cs:Array Value},Blk wr g T cs->T≠150->T≠22->Blk w' g T cs:=fun hb hT1 hT2=>(k.block _ hb.lt (fun hq=>hn hT1 hT2 _ hq _ hb)).trans hb;refine⟨h1.thenP k (fun i hi=>?_),bb,hbk h3 de de,h4.kpT k (hn de de),⟨ms0,hbk h5 de de,h6⟩,nm,h8,Nat.le_trans h9 k.size⟩;rcases hi with rfl|rfl|hi
 ·exact h8.2.1
 ·exact h8.2.2.1
 ·exact Nat.le_trans h8.1 (OwnS.row h7.own _ hi)
end BS
theorem eqNum (a b c d e f:Int)(w:World):(Op.equalIn 10000 292 (.agg #[.int .i64 a,.int .i64 b,.int .i64 c]) (.agg #[.int .i64 d,.int .i64 e,.int .i64 f])).run Tryz.prog w=.ok (a == d&&b == e&&c == f) w:=by
 have u3:=Tryz.underlying3;have hS:Tryz.prog.underlying 292=some (.struct (Tryz.prog.fieldsOf 292)):=by kernel_rfl
 have hp:Tryz.prog.stoodInHeld 292=false:=by kernel_rfl
 rw[show(10000:Nat)=9999+1 from rfl,run_equalIn_agg w 9999 292 _ _ hS hp];simp only[Program.fieldsOf,Tryz.underlying292];go_simp;by_cases h1:a=d<;>by_cases h2:b=e<;>by_cases h3:c=f<;>simp[h1,h2,h3]
theorem eqNumT (a b c d e f:Int)(h:a=d/\b=e/\c=f):(a == d&&b == e&&c == f)=true:=by simp[h]
theorem eqNumF (a b c d e f:Int)(h:¬(a=d/\b=e/\c=f)):(a == d&&b == e&&c == f)=false:=by
 rw[Bool.eq_false_iff];intro hh;simp at hh;exact h ⟨hh.1.1,hh.1.2,hh.2⟩
theorem Y22z2 {P:Prop} (h:P:=by
 go_enter Tryz.func181,Tryz.ntmps181
 go_wp2_with fail
 go_ret
 exact⟨rfl,Ext.rfl' _⟩):P:=h
theorem target_any (w:World)(bx:Nat)(gA:Option Addr)(n gc:Nat)(hcap:n<=gc/\gc<=9223372036854775807)(hb:w.cell? ⟨bx,0,none⟩=some (.slice gA n gc))(x:Int) :
 Calls Tryz.prog 181 #[.int .i64 x,.pointer (some ⟨bx,0,none⟩)] w (RetV (.bool (decide (0<=x/\x<n))) w):=by
 by_cases h0:0<=x
 ·by_cases h1:x<n
  ·rw[decide_eq_true ⟨h0,h1⟩];exact Y22z2
  ·rw[decide_eq_false (fun h=>h1 h.2)];exact Y22z2
 ·rw[decide_eq_false (fun h=>h0 h.1)];exact Y22z2
theorem egTarget:∀args w,(callFunc 181 args).run Tryz.prog w=.ok (.enter 181 args) w:=enters_of Tryz.func181 kr rfl
theorem Y22z1 {P:Prop} (h:P:=by
 have j0:=kc0 k0;have j1:=kc0 k1;have j2:=kc0 k2;have j3:=kc0 k3;have j4:=kc0 k4;have ju0:=kc0 u0;have ju1:=kc0 u1;have ju2:=kc0 u2
 go_upto_region 24 with fail
 refine Xr.start [] kr ?_;refine Xtk 0 ?_;refine Xtn ?_
 iterate 13(first|refine Xtn ?_|refine Xsn ?_)
 iterate 2(refine Xtn ?_)
 iterate 15(first|refine Xtn ?_|refine Xsn ?_)
 iterate 2(refine Xtn ?_)
 refine Xdn fun w9 hE9 hK9=>?_;clear j0 j1 j2 j3 j4 ju0 ju1 ju2
 go_wp2_with fail
 go_ret
 exact⟨by rw[<-HRES.out];rfl,X1.trans hE9⟩):P:=h
theorem pv0_any (gA:Option Addr)(n gc:Nat)(hn:n<=gc/\gc<=9223372036854775807)(runes:Bool)(caps:Int)(hcaps:0<=caps/\caps<=9)(zx zy zn:Int)(A:Option Addr)(c:Nat)(zl:List Sp)(w:World)(hL:SL w A c zl)(pb q:Nat)
 (c0:w.cell? ⟨pb,q,none⟩=some (.int .i64 0)) (c1:w.cell? ⟨pb,q+1,none⟩=some (.int .i64 zx)) (c2:w.cell? ⟨pb,q+2,none⟩=some (.int .i64 zy)) (c3:w.cell? ⟨pb,q+3,none⟩=some (.int .i64 zn)) (c4:w.cell? ⟨pb,q+4,none⟩=some (.slice A zl.length c)) :
 Calls Tryz.prog 131 #[.agg #[.slice gA n gc,.int .i64 caps,.bool runes],.pointer (some ⟨pb,q,none⟩)] w (RetV (.bool (okB runes caps n ⟨0,zx,zy,zn,zl⟩)) w):=by
 have hlen:=hL.len;have BG0:=Blk.new w 31 #[.slice gA n gc,.int .i64 caps,.bool runes];have EG0:=Ext.alloc w (.cells #[.slice gA n gc,.int .i64 caps,.bool runes] 31);have BU:=Blk.new (w.alloc (.cells #[.slice gA n gc,.int .i64 caps,.bool runes] 31)) 292 #[.int .i64 0,.int .i64 0,.int .i64 0];have EU:=Ext.alloc (w.alloc (.cells #[.slice gA n gc,.int .i64 caps,.bool runes] 31)) (.cells #[.int .i64 0,.int .i64 0,.int .i64 0] 292);have BG:=BG0.ext EU;have X1:=EG0.trans EU;rw[World.size_alloc] at BU;obtain⟨res,hres⟩:∃res,Hid (okB runes caps n ⟨0,zx,zy,zn,zl⟩=res):=⟨_,lh rfl⟩;rw[hres.out];have eg:=egTarget;have HQ:=fun(a b c d e f:Int) (W:World)=>eqNum a b c d e f W;go_enter Tryz.func131,Tryz.ntmps131
 go_upto_region 4 with fail
 obtain⟨gx,hgx⟩:∃gx,gx=w.heap.size:=⟨_,rfl⟩
 rw[<-hgx] at BG BU ⊢;clear BG0;generalize (w.alloc (.cells #[.slice gA n gc,.int .i64 caps,.bool runes] 31)).alloc (.cells #[.int .i64 0,.int .i64 0,.int .i64 0] 292)=w1 at *;have hpg:pb<gx:=by have:=World.block_lt_of_cell? _ _ c0;simp only at this;omega
 have hgw:w.heap.size<=gx:=om;clear EG0 EU hgx;have k0:=X1.cell c0;have k1:=X1.cell c1;have k2:=X1.cell c2;have k3:=X1.cell c3;have k4:=X1.cell c4;have g0:w1.cell? ⟨gx,0,none⟩=some (.slice gA n gc):=BG.cell 0;have g1:w1.cell? ⟨gx,1,none⟩=some (.int .i64 caps):=BG.cell 1;have g2:w1.cell? ⟨gx,2,none⟩=some (.bool runes):=BG.cell 2;have u0:w1.cell? ⟨gx+1,0,none⟩=some (.int .i64 0):=BU.cell 0;have u1:w1.cell? ⟨gx+1,1,none⟩=some (.int .i64 0):=BU.cell 1;have u2:w1.cell? ⟨gx+1,2,none⟩=some (.int .i64 0):=BU.cell 2;clear c0 c1 c2 c3 c4;by_cases hs:zl=[]
 ·subst hs;by_cases hq:(zx=0/\zy=0/\zn=0)
  ·have HRES:Hid (res=true):=lh (by rw[<-hres.out];exact okB_t ⟨.inr rfl,.inr hq.2.1,.inr (.inr hq.1),.inr (.inr hq.2.2),.inl rfl⟩);have hqb:=eqNumT zx zy zn 0 0 0 hq;have HQ2:=fun(W:World)=>HQ zx zy zn 0 0 0 W;rw[hqb] at HQ2;clear HQ hq hqb;exact Y22z1
  ·have HRES:Hid (res=false):=lh (by rw[<-hres.out];exact okB_f (fun h=>hq (by have h1:=h.2.1;have h2:=h.2.2.1;have h3:=h.2.2.2.1;simp only at h1 h2 h3;omega)));have hqb:=eqNumF zx zy zn 0 0 0 hq;have HQ2:=fun(W:World)=>HQ zx zy zn 0 0 0 W;rw[hqb] at HQ2;clear HQ hq hqb;exact Y22z1
 ·have HRES:Hid (res=false):=lh (by rw[<-hres.out];exact okB_f (fun h=>h.1.elim (fun h1=>by first|exact absurd h1 de|(simp only at h1;omega)) hs));have hl0:((zl.length:Int) == 0)=false:=by rw[beq_eq_false_iff_ne];have:=List.length_pos_iff.2 hs;omega
  exact Y22z1
end
end Go.Proofs.YtmpcoifnpflapaaGreat
