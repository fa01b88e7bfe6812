/- Texts of this proof: Y14 Y15 Y16 Y17 Y18 Y19 Y20 Y21 Y30 Y31 Y32 Y33 Y35 Y36 P8 K16 P10 Y22 P11 P12. -/
import Derived.Test.YtmocoldobnimfaaGreatMS22
import Derived.Test.YtmocoldobnimfaaGreatMS24
import Derived.DataReads
import Derived.OpenShut
set_option linter.all false
set_option maxRecDepth 100000
set_option maxHeartbeats 16000000
namespace Go.Proofs.YtmocoldobnimfaaGreat
section
open Go.RowKit
attribute [local go_sem ↓] Go.wp_at_zero Go.wp_at_succ
theorem fR (runes:Bool)(x:Int):XC runes [x]=if Qy runes x=true then 0 else 5:=by
 unfold XC;rw[if_neg si]
 simp
theorem Px:(Tryz.prog.info? 3).map (fun i=>(i.zero,i.size,i.bytes))=some (some (.int .i64 0),1,8):=by kernel_rfl
def kQ (runes:Bool)(h:Hs):Bool:=(QL h.l).any (Qy runes)
def ZN (runes:Bool)(hs:List Hs)(i:Nat):List Hs:=(hs.take i).filter (kQ runes)
theorem PA {runes:Bool}{hs:List Hs}{i:Nat}(hi:i<hs.length):ZN runes hs (i+1)=if kQ runes hs[i]=true then ZN runes hs i++[hs[i]] else ZN runes hs i:=by
 unfold ZN;rw[List.take_add_one,List.getElem?_eq_getElem hi];simp only[Option.toList_some,List.filter_append];by_cases h:kQ runes hs[i]=true
 ·rw[if_pos h,List.filter_cons_of_pos h];rfl
 ·rw[if_neg h,List.filter_cons_of_neg h];simp
theorem TS (runes:Bool)(hs:List Hs)(i:Nat):(ZN runes hs i).length<=i:=by
 unfold ZN;exact Nat.le_trans (List.length_filter_le _ _) (by rw[List.length_take];omega)
theorem GO {runes:Bool}{hs:List Hs}{i:Nat}{z:Hs}(h:z∈ZN runes hs i):z∈hs:=List.mem_of_mem_take (List.mem_filter.1 h).1
theorem TT (runes:Bool)(hs:List Hs):(ZN runes hs hs.length).map (·.l)=zJ runes (hs.map (·.l)):=by
 unfold ZN zJ;rw[List.take_length,List.filter_map]
 rfl
theorem NJ {l:List Sp}{j:Nat}(hj:j<l.length):QL (l.take (j+1))=QL (l.take j)++[l[j].1,l[j].2]:=by
 unfold QL;rw[List.take_add_one,List.getElem?_eq_getElem hj,List.flatMap_append]
 simp
theorem xw {l:List Sp}{j:Nat}(hj:j<l.length):∃r,QL l=QL (l.take j)++l[j].1::l[j].2::r:=by
 refine⟨QL (l.drop (j+1)),?_⟩;have h:l=l.take j++l[j]::l.drop (j+1):=by rw[<-List.drop_eq_getElem_cons hj,List.take_append_drop]
 have h2:QL (l.take j++l[j]::l.drop (j+1))=QL (l.take j)++l[j].1::l[j].2::QL (l.drop (j+1)):=by
  unfold QL;rw[List.flatMap_append,List.flatMap_cons]
  rfl
 exact(congrArg QL h).trans h2
theorem fS {runes:Bool}{l:List Sp}{j:Nat}(hj:j<l.length)(h0:∀x∈QL (l.take j),Qy runes x=false)(h1:Qy runes l[j].1=true):(QL l).any (Qy runes)=true/\JY runes l=l[j].1:=by
 obtain⟨r,hr⟩:=xw hj;have hf:(QL (l.take j)).find? (Qy runes)=none:=List.find?_eq_none.2 (fun x hx=>by rw[h0 x hx];simp);refine⟨by rw[hr];simp[h1],?_⟩;unfold JY;rw[hr,List.find?_append,hf];simp[h1]
theorem fU {runes:Bool}{l:List Sp}{j:Nat}(hj:j<l.length)(h0:∀x∈QL (l.take j),Qy runes x=false)(h1:Qy runes l[j].1=false)(h2:Qy runes l[j].2=true):(QL l).any (Qy runes)=true/\JY runes l=l[j].2:=by
 obtain⟨r,hr⟩:=xw hj;have hf:(QL (l.take j)).find? (Qy runes)=none:=List.find?_eq_none.2 (fun x hx=>by rw[h0 x hx];simp);refine⟨by rw[hr];simp[h2],?_⟩;unfold JY;rw[hr,List.find?_append,hf];simp[h1,h2]
theorem gQ {runes:Bool}{l:List Sp}{j:Nat}(hj:j<l.length)(h0:∀x∈QL (l.take j),Qy runes x=false)(h1:Qy runes l[j].1=false)(h2:Qy runes l[j].2=false):∀x∈QL (l.take (j+1)),Qy runes x=false:=by
 intro x hx;rw[NJ hj] at hx;rcases List.mem_append.1 hx with hx|hx
 ·exact h0 x hx
 ·simp only[List.mem_cons,List.not_mem_nil,or_false] at hx;rcases hx with rfl|rfl
  ·exact h1
  ·exact h2
theorem LLS.of_own {w:World}{base c:Nat}{O:Option Addr}{ks:List Hs}(h:QQ w base 23 1 O ks.length c (QR ks))(hs:∀z∈ks,SL w z.A z.c z.l):LLS w O c ks:=by
 have hc:=QQ.caps h;refine⟨hc.1,by unfold maxLen;omega,hs,fun hn=>?_⟩;obtain⟨b,o,rfl,hcell⟩:=QQ.cells h (by unfold QR;simpa using hn);refine⟨b,o,rfl,fun i hi=>?_⟩;have:=hcell i (by simpa[QR] using hi)
 simpa[QR] using this
theorem cF {runes:Bool}{z:Hs}(h:kQ runes z=true)(hs:∀s∈z.l,S64 s):I64 (JY runes z.l):=by
 obtain⟨s,hm,hx⟩:=List.mem_flatMap.1 (BZ h).1;have h2:=hs s hm;simp only[List.mem_cons,List.not_mem_nil,or_false] at hx;rcases hx with hx|hx<;>rw[hx]
 ·exact h2.1
 ·exact h2.2
theorem gZ {runes:Bool}{hs:List Hs}{i:Nat}{z:Hs}(h:z∈ZN runes hs i):kQ runes z=true:=(List.mem_filter.1 h).2
def PB (runes:Bool)(hs:List Hs)(w:World)(e:Ending)(w':World):Prop:=∃(O:Option Addr) (cO:Nat) (B:Option Addr) (d:Nat),
 e=.returned (.tuple #[.slice O (ZN runes hs hs.length).length cO,.slice B (ZN runes hs hs.length).length d])/\LLS w' O cO (ZN runes hs hs.length)/\IL w' B d ((ZN runes hs hs.length).map (fun z=>JY runes z.l))/\Ext w w'
theorem aJ {P:Prop} (h:P:=by
 go_roundw
 case rel=>exact⟨i+1,O9,cO9,B10,d10,by go_num,om,by rw[HU2.out,HKL.out],by rw[HU2.out,HKL.out],by rw[HU2.out];exact HO10,by rw[HU2.out,HX2.out,HKL.out];exact HB10,e10⟩
 case measure=>simp[intOf];omega):P:=h
theorem FZ (A:Option Addr)(c:Nat)(hs:List Hs)(runes:Bool)(w:World)(hl:LLS w A c hs)(hn:hs.length<=100000) :
 Calls Tryz.prog 69 #[.slice A hs.length c,.bool runes] w (PB runes hs w):=by
 obtain⟨iI,jI0,jI1,jI2,jI3⟩:=info_parts Px;obtain⟨i0,hi0,hz0,hz1,hz2⟩:=info_parts vG;have hcap:=hl.len;have HL:=lh hl;have HTV:=fun(x:Int) (hx:I64 x) (W:World)=>lh (show Calls Tryz.prog 79 #[.slice (some ⟨W.heap.size,0,none⟩) 1 1,.bool runes] (W.alloc (.cells #[.int .i64 x] 3)) (QD (.int .i64 (if Qy runes x=true then 0 else 5)) (W.alloc (.cells #[.int .i64 x] 3))) by
  have h:=jI (some ⟨W.heap.size,0,none⟩) 1 [x] runes (W.alloc (.cells #[.int .i64 x] 3)) (IL.one (x:=x) (Blk.new _ _ _) hx);rw[fR] at h;exact h)
 have HSU:=fun i (hi:i<hs.length)=>lh (PA (runes:=runes) hi);have HUL:=fun i=>TS runes hs i;have HUM:=fun i z=>lh (GO (runes:=runes) (hs:=hs) (i:=i) (z:=z));clear hl;go_enter Tryz.func69,Tryz.ntmps69
 go_upto_region 4 with fail
 go_loopw [6,7,15] (fun v6 v7 v15 wr=>∃(i:Nat) (O:Option Addr) (cO:Nat) (B:Option Addr) (d:Nat),v15=.int .i64 i/\i<=hs.length/\v6=.slice O (ZN runes hs i).length cO/\v7=.slice B (ZN runes hs i).length d/\
  Hid (QQ wr w.heap.size 23 1 O (ZN runes hs i).length cO (QR (ZN runes hs i)))/\Hid (QQ wr w.heap.size 3 1 B (ZN runes hs i).length d (((ZN runes hs i).map (fun z=>JY runes z.l)).map (Value.int .i64)))/\Ext w wr) (fun _ _ v _=>hs.length-(intOf v).toNat)
 case atStart=>exact⟨0,none,0,none,0,rfl,om,rfl,rfl,lh (QQ.nil _ _ _ _),lh (QQ.nil _ _ _ _),Ext.rfl' _⟩
 case round=>
  obtain⟨i,O,cO,B,d,rfl,hi,rfl,rfl,HO,HB,x1⟩:=hrel;by_cases hlt:i<hs.length
  ·have hiI:(i:Int)<hs.length:=om;have HLr:=lh (HL.out.ext x1);obtain⟨rb,ro,hA,cr⟩:=HLr.out.get hlt;have hA':=hA;subst hA';have HSi:=lh (HLr.out.sl _ (List.getElem_mem hlt));have hsu:=HSU i hlt;have hul:=HUL i;obtain⟨h,hh⟩:∃h,h=hs[i]:=⟨_,rfl⟩
   rw[<-hh] at cr HSi hsu;have HH:=lh hh;clear hh;obtain⟨A0,hA0⟩:∃A0,Hid (h.A=A0):=⟨_,lh rfl⟩;rw[hA0.out] at cr;replace HSi:=lh (show SL wr A0 h.c h.l from by have h9:=HSi.out;rw[hA0.out] at h9;exact h9);obtain⟨ks,hks⟩:∃ks,ks=ZN runes hs i:=⟨_,rfl⟩
   rw[<-hks] at HO HB hsu hul ⊢;have HKS:=lh hks;clear hks;have hcl:=HSi.out.len;have HMX:Hid ((ks.map (fun z=>JY runes z.l)).length=ks.length):=lh si;obtain⟨xs,hxs⟩:∃xs,Hid (ks.map (fun z=>JY runes z.l)=xs):=⟨_,lh rfl⟩;rw[hxs.out] at HB HMX;obtain⟨w1,rfl⟩:∃w1,w1=wr:=⟨wr,rfl⟩
   go_upto_region 7 with fail
   clear cr
   go_loopw [6,7,21] (fun v6 v7 v21 wr=>∃j:Nat,v21=.int .i64 j/\j<=h.l.length/\v6=.slice O ks.length cO/\v7=.slice B ks.length d/\Hid (∀x∈QL (h.l.take j),Qy runes x=false)/\Ext w1 wr) (fun _ _ v _=>h.l.length-(intOf v).toNat)
   case atStart=>exact⟨0,rfl,om,rfl,rfl,lh (by simp[QL]),Ext.rfl' _⟩
   case round=>
    obtain⟨j,rfl,hj,rfl,rfl,HN,y1⟩:=hrel;by_cases hlt2:j<h.l.length
    ·have hjI:(j:Int)<h.l.length:=om;have hwf:=(HSi.out.ext y1).wf hlt2;obtain⟨sb,so,rfl,g1,g2⟩:=(HSi.out.ext y1).get hlt2;have HLO:=fun h1=>lh (fS (runes:=runes) hlt2 HN.out h1);have HHI:=fun h1 h2=>lh (fU (runes:=runes) hlt2 HN.out h1 h2);have HNO:=fun h1 h2=>lh (gQ (runes:=runes) hlt2 HN.out h1 h2);generalize h.l[j]=s at *;obtain⟨lo,hi2⟩:=s
     simp only at g1 g2 HLO HHI HNO
     have hlo:I64 lo:=hwf.1;have hhi:I64 hi2:=hwf.2;obtain⟨b1,xa⟩:=Yy wr 38 #[.int .i64 lo,.int .i64 hi2];obtain⟨p0,p1,_,_,pz⟩:=b1.c2;have y2:=y1.trans xa;by_cases hv:Qy runes lo=true
     ·have HF:=HLO hv;have HU2:=lh (show ZN runes hs (i+1)=ks++[h] by rw[hsu.out,if_pos (show kQ runes h=true from HF.out.1)]);have HX2:=lh (show(ks++[h]).map (fun z=>JY runes z.l)=xs++[lo] by rw[List.map_append,hxs.out];simp only[List.map_cons,List.map_nil];rw[HF.out.2]);have HKL:=lh (show(ks++[h]).length=ks.length+1 by simp);have HXL:=lh (show(xs++[lo]).length=xs.length+1 by simp);have hxl:xs.length<=i:=by rw[HMX.out];exact hul
      clear hsu HLO HHI HNO HF;have HT1:=fun(W:World)=>lh (show Calls Tryz.prog 79 #[.slice (some ⟨W.heap.size,0,none⟩) 1 1,.bool runes] (W.alloc (.cells #[.int .i64 lo] 3)) (QD (.int .i64 0) (W.alloc (.cells #[.int .i64 lo] 3))) by
       have h9:=(HTV lo hlo W).out;rw[if_pos hv] at h9;exact h9)
      clear hv HTV
      go_upto_region 10 with fail
      generalize wr.alloc (.cells #[.int .i64 lo,.int .i64 hi2] 38)=wb at *
      go_upto_region 11 with fail
      refine(HT1 wb).out.mono ?_;rintro e w4 ⟨rfl,x4⟩
      go_upto_region 13 with fail
      refine(HT1 w4).out.mono ?_;rintro e w6 ⟨rfl,x6⟩
      go_upto_region 13 with fail
      have Y6:Ext wr w6:=((xa.trans (Ext.alloc _ _)).trans x4).trans ((Ext.alloc _ _).trans x6);have X8:=x1.trans (y1.trans Y6);have HO8:=lh (QQ.ext HO.out (y1.trans Y6));have HB8:=lh (QQ.ext HB.out (y1.trans Y6))
      go_upto_region 14 with((at_builtin;refine Qv _ rfl _ _ _ rfl w.heap.size 23 i0 (.slice none 0 0) 1 24 Tryz.underlying125 hi0 hz0 hz1 hz2 rfl om O ks.length cO (QR ks) rfl (QQ.ext HO8.out (Ext.alloc _ _)) _ 1 1 [.slice (some ⟨sb,so,none⟩) h.l.length h.c] rfl rfl (QC (Blk.new _ _ _)) (by intro u hu;simp only[List.mem_cons,List.not_mem_nil,or_false] at hu;rcases hu with rfl;rfl) um om (X8.trans (Ext.alloc _ _)).size ?_;intro O9 cO9 w9 ho9 hg9 hat9))
      have e9:Ext w w9:=Ext.app (X8.trans (Ext.alloc _ _)) (QQ.ext HO8.out (Ext.alloc _ _)) hg9;have HB9:=lh (QQ.kp (QQ.ext HB8.out (Ext.alloc _ _)) (KpP.of_grown hg9) (fun b hb he=>qx HO8.out HB8.out de he hb));have HO9:=lh (show QQ w9 w.heap.size 23 1 O9 (ks++[h]).length cO9 (QR (ks++[h])) by
       rw[HKL.out];unfold QR at ho9 ⊢;rw[List.map_append,List.map_cons,List.map_nil,hA0.out];exact ho9)
      go_wp2_with ((at_builtin;refine Qv _ rfl _ _ _ rfl w.heap.size 3 iI (.int .i64 0) 1 8 Tryz.underlying22 jI0 jI1 jI2 jI3 rfl om B ks.length d (xs.map (Value.int .i64)) rfl (QQ.ext HB9.out (Ext.alloc _ _)) _ 1 1 [.int .i64 lo] rfl rfl (QC (Blk.new _ _ _)) (by intro u hu;simp only[List.mem_cons,List.not_mem_nil,or_false] at hu;rcases hu with rfl;rfl) um om (e9.trans (Ext.alloc _ _)).size ?_;intro B10 d10 w10 ho10 hg10 hat10))
      have e10:Ext w w10:=Ext.app (e9.trans (Ext.alloc _ _)) (QQ.ext HB9.out (Ext.alloc _ _)) hg10;have HO10:=lh (QQ.kp (QQ.ext HO9.out (Ext.alloc _ _)) (KpP.of_grown hg10) (fun b hb he=>qx HB9.out HO9.out de he hb));have HB10:=lh (show QQ w10 w.heap.size 3 1 B10 (ks.length+1) d10 ((xs++[lo]).map (Value.int .i64)) by
       rw[List.map_append];exact ho10)
      exact aJ
     ·have hv0:Qy runes lo=false:=by simpa using hv
      have HT1:=fun(W:World)=>lh (show Calls Tryz.prog 79 #[.slice (some ⟨W.heap.size,0,none⟩) 1 1,.bool runes] (W.alloc (.cells #[.int .i64 lo] 3)) (QD (.int .i64 5) (W.alloc (.cells #[.int .i64 lo] 3))) by
       have h9:=(HTV lo hlo W).out;rw[if_neg hv] at h9;exact h9)
      by_cases hv2:Qy runes hi2=true
      ·have HF:=HHI hv0 hv2;have HU2:=lh (show ZN runes hs (i+1)=ks++[h] by rw[hsu.out,if_pos (show kQ runes h=true from HF.out.1)]);have HX2:=lh (show(ks++[h]).map (fun z=>JY runes z.l)=xs++[hi2] by rw[List.map_append,hxs.out];simp only[List.map_cons,List.map_nil];rw[HF.out.2]);have HKL:=lh (show(ks++[h]).length=ks.length+1 by simp);have HXL:=lh (show(xs++[hi2]).length=xs.length+1 by simp);have hxl:xs.length<=i:=by rw[HMX.out];exact hul
       clear hsu HLO HHI HNO HF;have HT2:=fun(W:World)=>lh (show Calls Tryz.prog 79 #[.slice (some ⟨W.heap.size,0,none⟩) 1 1,.bool runes] (W.alloc (.cells #[.int .i64 hi2] 3)) (QD (.int .i64 0) (W.alloc (.cells #[.int .i64 hi2] 3))) by
        have h9:=(HTV hi2 hhi W).out;rw[if_pos hv2] at h9;exact h9)
       clear hv hv0 hv2 HTV
       go_upto_region 10 with fail
       generalize wr.alloc (.cells #[.int .i64 lo,.int .i64 hi2] 38)=wb at *
       go_upto_region 11 with fail
       refine(HT1 wb).out.mono ?_;rintro e w4 ⟨rfl,x4⟩;have p1':=x4.cell ((Ext.alloc _ _).cell p1)
       go_upto_region 13 with fail
       refine(HT2 w4).out.mono ?_;rintro e w6 ⟨rfl,x6⟩
       go_upto_region 13 with fail
       have Y6:Ext wr w6:=((xa.trans (Ext.alloc _ _)).trans x4).trans ((Ext.alloc _ _).trans x6);have X8:=x1.trans (y1.trans Y6);have HO8:=lh (QQ.ext HO.out (y1.trans Y6));have HB8:=lh (QQ.ext HB.out (y1.trans Y6))
       go_upto_region 14 with((at_builtin;refine Qv _ rfl _ _ _ rfl w.heap.size 23 i0 (.slice none 0 0) 1 24 Tryz.underlying125 hi0 hz0 hz1 hz2 rfl om O ks.length cO (QR ks) rfl (QQ.ext HO8.out (Ext.alloc _ _)) _ 1 1 [.slice (some ⟨sb,so,none⟩) h.l.length h.c] rfl rfl (QC (Blk.new _ _ _)) (by intro u hu;simp only[List.mem_cons,List.not_mem_nil,or_false] at hu;rcases hu with rfl;rfl) um om (X8.trans (Ext.alloc _ _)).size ?_;intro O9 cO9 w9 ho9 hg9 hat9))
       have e9:Ext w w9:=Ext.app (X8.trans (Ext.alloc _ _)) (QQ.ext HO8.out (Ext.alloc _ _)) hg9;have HB9:=lh (QQ.kp (QQ.ext HB8.out (Ext.alloc _ _)) (KpP.of_grown hg9) (fun b hb he=>qx HO8.out HB8.out de he hb));have HO9:=lh (show QQ w9 w.heap.size 23 1 O9 (ks++[h]).length cO9 (QR (ks++[h])) by
        rw[HKL.out];unfold QR at ho9 ⊢;rw[List.map_append,List.map_cons,List.map_nil,hA0.out];exact ho9)
       go_wp2_with ((at_builtin;refine Qv _ rfl _ _ _ rfl w.heap.size 3 iI (.int .i64 0) 1 8 Tryz.underlying22 jI0 jI1 jI2 jI3 rfl om B ks.length d (xs.map (Value.int .i64)) rfl (QQ.ext HB9.out (Ext.alloc _ _)) _ 1 1 [.int .i64 hi2] rfl rfl (QC (Blk.new _ _ _)) (by intro u hu;simp only[List.mem_cons,List.not_mem_nil,or_false] at hu;rcases hu with rfl;rfl) um om (e9.trans (Ext.alloc _ _)).size ?_;intro B10 d10 w10 ho10 hg10 hat10))
       have e10:Ext w w10:=Ext.app (e9.trans (Ext.alloc _ _)) (QQ.ext HB9.out (Ext.alloc _ _)) hg10;have HO10:=lh (QQ.kp (QQ.ext HO9.out (Ext.alloc _ _)) (KpP.of_grown hg10) (fun b hb he=>qx HB9.out HO9.out de he hb));have HB10:=lh (show QQ w10 w.heap.size 3 1 B10 (ks.length+1) d10 ((xs++[hi2]).map (Value.int .i64)) by
        rw[List.map_append];exact ho10)
       exact aJ
      ·have hv20:Qy runes hi2=false:=by simpa using hv2
       have HN2:=HNO hv0 hv20;have HT2:=fun(W:World)=>lh (show Calls Tryz.prog 79 #[.slice (some ⟨W.heap.size,0,none⟩) 1 1,.bool runes] (W.alloc (.cells #[.int .i64 hi2] 3)) (QD (.int .i64 5) (W.alloc (.cells #[.int .i64 hi2] 3))) by
        have h9:=(HTV hi2 hhi W).out;rw[if_neg hv2] at h9;exact h9)
       clear hv hv0 hv2 hv20 HLO HHI HNO
       go_upto_region 10 with fail
       generalize wr.alloc (.cells #[.int .i64 lo,.int .i64 hi2] 38)=wb at *
       go_upto_region 11 with fail
       refine(HT1 wb).out.mono ?_;rintro e w4 ⟨rfl,x4⟩;have p1':=x4.cell ((Ext.alloc _ _).cell p1)
       go_upto_region 13 with fail
       refine(HT2 w4).out.mono ?_;rintro e w6 ⟨rfl,x6⟩;have Y6:Ext wr w6:=((xa.trans (Ext.alloc _ _)).trans x4).trans ((Ext.alloc _ _).trans x6)
       go_wp2_with fail
       go_roundw
       case rel=>exact⟨j+1,by go_num,om,rfl,rfl,HN2,y1.trans Y6⟩
       case measure=>simp[intOf];omega
    ·have hjI:¬(j:Int)<h.l.length:=om;obtain rfl:j=h.l.length:=om;have hno:kQ runes h=false:=by
      have h9:=HN.out;rw[List.take_length] at h9;unfold kQ;rw[List.any_eq_false];intro x hx;rw[h9 x hx];simp
     have HU2:=lh (show ZN runes hs (i+1)=ks by rw[hsu.out,if_neg (by rw[hno];simp)]);clear hsu hno
     go_wp2_with fail
     go_roundw
     case rel=>exact⟨i+1,O,cO,B,d,by go_num,om,by rw[HU2.out],by rw[HU2.out],by rw[HU2.out];exact lh (QQ.ext HO.out y1),by rw[HU2.out,hxs.out];exact lh (QQ.ext HB.out y1),x1.trans y1⟩
     case measure=>simp[intOf];omega
  ·have hiI:¬(i:Int)<hs.length:=om;obtain rfl:i=hs.length:=om;have HLL:=lh (LLS.of_own HO.out (fun z hz=>(HL.out.ext x1).sl z ((HUM _ z).out hz)));have HII:=lh (show IL wr B d ((ZN runes hs hs.length).map (fun z=>JY runes z.l)) from IL.of_own (base:=w.heap.size) (e:=3) (by unfold WO;rw[List.length_map];exact HB.out) (fun x hx=>by
    obtain⟨z,hz,rfl⟩:=List.mem_map.1 hx;exact cF (gZ hz) (HL.out.sl z (GO hz)).rng))
   clear HSU HUL HUM HO HB HTV
   go_wp2_with fail
   go_ret2
   exact⟨O,cO,B,d,rfl,HLL.out,HII.out,x1⟩
end
section
open Go.RowKit
theorem cG:(Tryz.prog.info? 211).map (fun i=>(i.zero,i.size,i.bytes))=some (some (.agg #[.int .i64 0,.int .i64 0]),2,16):=by kernel_rfl
def vI (p:Sp):Prop:=0<=p.1/\p.1<=1114112
def V2 (w:World)(base:Nat)(A:Option Addr)(c:Nat)(l:List Sp):Prop:=QQ w base 211 2 A l.length c (Qz l)
abbrev qT:={ s:Sp // vI s }
instance:Inhabited qT:=⟨⟨(0,0),by unfold vI;simp⟩⟩
def JD (x:qT):List Value:=[.int .i64 x.1.1,.int .i64 x.1.2]
def qU (x y:qT):Int:=x.1.1-y.1.1
theorem Fq (x y:qT):Go.Proofs.ltOf qU x y=decide (x.1.1<y.1.1):=by
 unfold Go.Proofs.ltOf qU;rw[Bool.eq_iff_iff];simp only[decide_eq_true_eq];omega
theorem gJ:Go.Sort.SWO (Go.Proofs.ltOf qU) where
 irrefl x:=by rw[Fq];simp
 trans x y z h1 h2:=by rw[Fq] at *;simp at *;omega
 ntrans x y z h1 h2:=by rw[Fq] at *;simp at *;omega
def Fz:(l:List Sp)->(∀s∈l,vI s)->List qT
 | [],_=>[]
 | s::l,h=>⟨s,h s si⟩::Fz l (fun t ht=>h t (by simp[ht]))
theorem DS:∀(l:List Sp) (h:∀s∈l,vI s),(Fz l h).map (·.1)=l
 | [],_=>rfl
 | s::l,h=>by rw[Fz,List.map_cons,DS l]
theorem vL (d:List qT)(j:Nat)(hj:j<d.length*2):(Go.Sort.flatK JD 2 d.toArray)[j]! = (Qz (d.map (·.1)))[j]'(by rw[Q1,List.length_map];exact hj):=by
 rw[Go.Sort.get_flatK _ _ _ _ (by simpa using hj)];have hi:j / 2<d.length:=om;have hi':j / 2<(d.map (·.1)).length:=by simpa using hi
 obtain⟨g1,g2⟩:=ZH (d.map (·.1)) (j / 2) hi';obtain⟨l1,e1⟩:=List.getElem?_eq_some_iff.1 g1;obtain⟨l2,e2⟩:=List.getElem?_eq_some_iff.1 g2;have hd:d.toArray[j / 2]! = d[j / 2]:=by simp[hi]
 rw[hd];rcases Nat.mod_two_eq_zero_or_one j with h0|h1
 ·have e:j=j / 2*2:=om;rw[h0];have:(Qz (d.map (·.1)))[j]'(by rw[Q1,List.length_map];exact hj)=.int .i64 d[j / 2].1.1:=by
   have:=e1
   simp only[<-e] at this;rw[this];simp
  rw[this];rfl
 ·have e:j=j / 2*2+1:=om;rw[h1];have:(Qz (d.map (·.1)))[j]'(by rw[Q1,List.length_map];exact hj)=.int .i64 d[j / 2].1.2:=by
   have:=e2
   simp only[<-e] at this;rw[this];simp
  rw[this];rfl
theorem TU {w:World}{base c g:Nat}{d:List qT}(h:V2 w base (some ⟨g,0,none⟩) c (d.map (·.1))):Go.Sort.HoldsK JD 2 w g 0 d.toArray:=by
 intro j hj;rw[Go.Sort.size_flatK] at hj;have hj2:j<d.length*2:=by simpa using hj
 have hfl:j<(Qz (d.map (·.1))).length:=by rw[Q1,List.length_map];exact hj2
 obtain⟨g',he,_,h1,h2,_,_⟩:=QQ.store h hfl;injection he with he;injection he with e1 _ _
 subst e1;rw[Nat.zero_add,vL d j hj2];exact⟨h1,h2⟩
theorem PC {w:World}{base c g n:Nat}{d d':List qT}{os:Array Obj}(h:V2 w base (some ⟨g,0,none⟩) c (d.map (·.1)))(hl:d'.length=d.length) :
 V2 (Go.Proofs.sortWorldK JD 2 w g 0 n d'.toArray os) base (some ⟨g,0,none⟩) c (d'.map (·.1))/\KpP (·=g) w (Go.Proofs.sortWorldK JD 2 w g 0 n d'.toArray os):=by
 rcases h.form with⟨h0,_⟩|⟨g',cur,he,hg,hh,hnc,hcm,hcs,ht⟩
 ·cases h0
 ·injection he with he;injection he with e1 _ _
  subst e1;have hlt:g<w.heap.size:=(Array.getElem?_eq_some_iff.1 hh).1;have hk:KpP (·=g) w (Go.Proofs.sortWorldK JD 2 w g 0 n d'.toArray os):=by
   refine⟨rfl,rfl,rfl,?_,fun k hk hn=>?_⟩
   ·show w.heap.size<=(Array.size (_++os))
    simp[Go.Sort.putRowK,Go.Sort.putRow,Go.Sort.mapBlock,Go.Sort.ahead]
   ·show(_++os)[k]? = _
    have hne:¬g=k:=fun e=>hn e.symm;rw[Array.getElem?_append_left (by simp[Go.Sort.putRowK,Go.Sort.putRow,Go.Sort.mapBlock,Go.Sort.ahead];exact hk)];simp[Go.Sort.putRowK,Go.Sort.putRow,Go.Sort.mapBlock,Go.Sort.ahead,Array.getElem?_modify,hne]
  refine⟨?_,hk⟩;have hb:Blk (Go.Proofs.sortWorldK JD 2 w g 0 n d'.toArray os) g 211 (Go.Sort.putCells id 0 (Go.Sort.flatK JD 2 d'.toArray) cur):=by
   show(_++os)[g]? = _
   rw[Array.getElem?_append_left (by simp[Go.Sort.putRowK,Go.Sort.putRow,Go.Sort.mapBlock,Go.Sort.ahead];exact hlt)];simp[Go.Sort.putRowK,Go.Sort.putRow,Go.Sort.mapBlock,Go.Sort.ahead,Array.getElem?_modify,hh,Go.Sort.onCells]
  have:=QQ.of_blk (n:=(d'.map (·.1)).length) (c:=c) (size:=2) hb hg (by simp[Go.Sort.putCells,hcs]) (by rw[List.length_map] at hnc ⊢;omega) hcm;have e:(Go.Sort.putCells id 0 (Go.Sort.flatK JD 2 d'.toArray) cur).toList.take ((d'.map (·.1)).length*2)=Qz (d'.map (·.1)):=by
   have hsz:d'.length*2<=cur.size:=by rw[hcs];rw[List.length_map] at hnc;omega
   refine List.ext_getElem ?_ (fun j h1 h2=>?_)
   ·rw[List.length_take,Q1];simp[Go.Sort.putCells];omega
   ·have hj:j<d'.length*2:=by rw[Q1,List.length_map] at h2;exact h2
    rw[List.getElem_take];have hjc:j<cur.size:=om;have:(Go.Sort.putCells id 0 (Go.Sort.flatK JD 2 d'.toArray) cur)[j]'(by simpa[Go.Sort.putCells] using hjc)=(Go.Sort.flatK JD 2 d'.toArray)[j]!:=by
     simp only[Go.Sort.putCells,Array.getElem_mapIdx,Go.Sort.size_flatK];rw[if_pos ⟨Nat.zero_le _,by simpa using hj⟩]
     rfl
    rw[Array.getElem_toList,this,vL d' j hj]
  rw[e] at this;exact this
theorem NK (x y:qT)(W:World):Calls Tryz.prog 118 #[.agg #[.int .i64 x.1.1,.int .i64 x.1.2],.agg #[.int .i64 y.1.1,.int .i64 y.1.2]] W (fun e w'=>e=.returned (.int .i64 (qU x y))/\∃q os',w'=Go.Sort.grow (W.drewN q) os'):=by
 obtain⟨⟨x1,x2⟩,hx⟩:=x;obtain⟨⟨y1,y2⟩,hy⟩:=y;have hx':0<=x1/\x1<=1114112:=hx;have hy':0<=y1/\y1<=1114112:=hy;have hw:IntKind.i64.wrap (x1-y1)=x1-y1:=wj;unfold qU
 simp only
 go_enter Tryz.func118,Tryz.ntmps118
 go_wp2
 go_ret
 exact⟨by rw[<-hw];rfl,0,_,by rw[Go.Sort.alloc_eq_grow,Go.Sort.alloc_eq_grow,Go.Sort.grow_grow];rfl⟩
theorem I4 (base g c:Nat)(l:List Sp)(hg:∀s∈l,vI s)(w:World)(hl:V2 w base (some ⟨g,0,none⟩) c l)(hlen:l.length<=1000000) :
 Calls Tryz.prog 117 #[.slice (some ⟨g,0,none⟩) l.length c,.func (.func 118) #[] #[]] w (fun e w'=>e=.returned (.tuple #[])/\∃m:List Sp,l.Perm m/\m.Pairwise (fun s t=>s.1<=t.1)/\m.length=l.length/\V2 w' base (some ⟨g,0,none⟩) c m/\KpP (·=g) w w'):=by
 obtain⟨d,hd⟩:∃d:List qT,d.map (·.1)=l:=⟨Fz l hg,DS l hg⟩;subst hd;have eg:∀args w,(callFunc 118 args).run Tryz.prog w=.ok (.enter 118 args) w:=enters_of Tryz.func118 kr rfl;have hcmp:Go.Proofs.CmpLays Tryz.prog 118 #[] JD 2 qU g 0 d.toArray.size w:=fun _ _ _ _ x y=>NK x y _;have hcon:=AnyQ.slices_SortFunc Tryz.sortStretch 2 Tryz.isAgg211 Tryz.sizeOf211 JD (fun _=>rfl) (fun x v hv=>by simp[JD] at hv;rcases hv with rfl|rfl<;>rfl) qU gJ 118 #[] g 0 c d.toArray w eg hcmp (TU hl) ((QQ.blt hl rfl).1) (by rw[List.length_map] at hlen;simp;omega);change Calls Tryz.prog 117 _ _ _ at hcon;have hsz:d.toArray.size=(d.map (·.1)).length:=by simp
 rw[hsz] at hcon;refine hcon.mono ?_;rintro e w' ⟨rfl,d',n,os,hp,hs,rfl⟩;have hps:=hp.1;rw[List.size_toArray] at hps;obtain⟨d2,rfl⟩:∃d2:List qT,d'=d2.toArray:=⟨d'.toList,by simp⟩;replace hps:d2.length=d.length:=by simpa using hps
 have hperm:d2.Perm d:=by
  have:=hp.2.2;rw[List.length_map] at this;have h4:d2.Perm (d.take d2.length):=by simpa[<-hps] using this
  rw[List.take_of_length_le om] at h4;exact h4
 obtain⟨h1,h2⟩:=PC (d':=d2) (n:=n) (os:=os) hl hps;refine⟨rfl,d2.map (·.1),(hperm.symm).map _,?_,by simp[hps],h1,h2⟩;rw[List.pairwise_map,List.pairwise_iff_getElem];intro i j hi hj hij;have h3:=hs i j (Nat.zero_le _) hij (by simp;omega);rw[Fq] at h3;have e1:d2.toArray[j]! = d2[j]:=by simp[hj]
 have e2:d2.toArray[i]! = d2[i]:=by simp[hi]
 rw[e1,e2] at h3;simp at h3;exact h3
def Zk (ls:List (List Sp)):Nat->List Sp
 | 0=>[]
 | i+1=>Zk ls i++(ls.getD i []).map (fun s=>(s.1,(i:Int)))
theorem PD (l:List (List Sp))(x:List Sp):strs (l++[x])=strs l++x.map (fun s=>(s.1,l.length)):=by
 unfold strs;rw[List.zipIdx_append,List.flatMap_append]
 simp
theorem vM (ls:List (List Sp)):∀i,i<=ls.length->(Zk ls i).map (fun p=>(p.1,p.2.toNat))=strs (ls.take i)
 | 0,_=>rfl
 | i+1,h=>by
  have hi:i<ls.length:=om;rw[Zk,List.map_append,vM ls i om,List.take_add_one,List.getElem?_eq_getElem hi,Option.toList_some,PD]
  congr 1
  have hg:ls.getD i []=ls[i]:=by simp[List.getD_eq_getElem?_getD,hi]
  rw[hg,List.map_map,List.length_take];refine List.map_congr_left (fun s _=>?_);have:min i ls.length=i:=om;simp[this]
theorem L5 {ls:List (List Sp)}(h:∀l∈ls,∀s∈l,0<=s.1/\s.1<=1114111):∀i,∀s∈Zk ls i,vI s
 | 0,s,hs=>by simp[Zk] at hs
 | i+1,s,hs=>by
  rw[Zk] at hs;rcases List.mem_append.1 hs with hs|hs
  ·exact L5 h i s hs
  ·obtain⟨x,hx,rfl⟩:=List.mem_map.1 hs;have hm:ls.getD i []∈ls\/ls.getD i []=[]:=by
    rcases Nat.lt_or_ge i ls.length with hi|hi
    ·left;simp[List.getD_eq_getElem?_getD,hi]
    ·right;simp[List.getD_eq_getElem?_getD,hi]
   rcases hm with hm|hm
   ·have:=h _ hm x hx;unfold vI;simp only;omega
   ·rw[hm] at hx;simp at hx
theorem yy {ls:List (List Sp)}{n:Nat}(h:∀l∈ls,l.length<=n):∀i,(Zk ls i).length<=i*n
 | 0=>by simp[Zk]
 | i+1=>by
  have ih:=yy h i;have hm:(ls.getD i []).length<=n:=by
   rcases Nat.lt_or_ge i ls.length with hi|hi
   ·have:ls.getD i []=ls[i]:=by simp[List.getD_eq_getElem?_getD,hi]
    rw[this];exact h _ (List.getElem_mem hi)
   ·have:ls.getD i []=[]:=by simp[List.getD_eq_getElem?_getD,hi]
    rw[this];simp
  rw[Zk,List.length_append,List.length_map,Nat.add_mul];omega
theorem gV {kept:List (List Sp)}(hle:∀c∈kept,∀s∈c,s.1<=s.2)(hdis:∀x k k' (hk:k<kept.length) (hk':k'<kept.length),has kept[k] x=true->has kept[k'] x=true->k=k')
 {m:List Sp} (hp:(Zk kept kept.length).Perm m) (hs:m.Pairwise (fun a b=>a.1<=b.1)) (hnn:∀p∈m,0<=p.2) {x:Int} {k:Nat} (hk:k<kept.length) (hx:has kept[k] x=true):jO m x k:=by
 intro i hi h1 h2;have hp2:(strs kept).Perm (m.map (fun p=>(p.1,p.2.toNat))):=by
  have h3:=hp.map (fun p:Sp=>(p.1,p.2.toNat));rw[vM _ _ (Nat.le_refl _),List.take_length] at h3;exact h3
 have hs2:(m.map (fun p:Sp=>(p.1,p.2.toNat))).Pairwise (fun a b=>a.1<=b.1):=by
  rw[List.pairwise_map];exact hs
 obtain⟨h0,h3,h4⟩:=Ix hle hdis hp2 hs2 hk hx (i:=i) (by simpa using hi) (fun j hj hji=>by simpa using h1 j (by simpa using hj) hji) (fun hj=>by simpa using h2 (by simpa using hj));have h0':i-1<m.length:=by simpa using h0
 refine⟨h0',h3,?_⟩;have h5:m[i-1].2.toNat=k:=by simpa using h4
 have h6:=hnn _ (List.getElem_mem h0');omega
theorem CK {ls:List (List Sp)}:∀i,∀s∈Zk ls i,0<=s.2
 | 0,s,hs=>by simp[Zk] at hs
 | i+1,s,hs=>by
  rw[Zk] at hs;rcases List.mem_append.1 hs with hs|hs
  ·exact CK i s hs
  ·obtain⟨x,hx,rfl⟩:=List.mem_map.1 hs
   simp
end
section
open Go.RowKit
attribute [local go_sem ↓] Go.wp_at_zero Go.wp_at_succ
def gY (ls:List (List Sp))(w:World)(e:Ending)(w':World):Prop:=∃(A:Option Addr) (c:Nat) (m:List Sp),e=.returned (.slice A m.length c)/\SL w' A c m/\(Zk ls ls.length).Perm m/\m.Pairwise (fun s t=>s.1<=t.1)/\Ext w w'
def XW (ls:List (List Sp))(i j:Nat):List Sp:=Zk ls i++((ls.getD i []).take j).map (fun s=>(s.1,(i:Int)))
theorem L6 {ls:List (List Sp)}:∀i,∀s∈Zk ls i,s.2<i
 | 0,s,hs=>by simp[Zk] at hs
 | i+1,s,hs=>by
  rw[Zk] at hs;rcases List.mem_append.1 hs with hs|hs
  ·have:=L6 i s hs;omega
  ·obtain⟨x,hx,rfl⟩:=List.mem_map.1 hs
   simp only;omega
theorem DT (ls:List (List Sp))(i:Nat):XW ls i 0=Zk ls i:=by simp[XW]
theorem T0 (ls:List (List Sp))(i:Nat){l:List Sp}(h:ls.getD i []=l):XW ls i l.length=Zk ls (i+1):=by
 unfold XW;rw[h,List.take_length,Zk,h]
theorem PE (ls:List (List Sp))(i:Nat){l:List Sp}(h:ls.getD i []=l){j:Nat}(hj:j<l.length):XW ls i (j+1)=XW ls i j++[(l[j].1,(i:Int))]:=by
 unfold XW;rw[h,List.take_add_one,List.getElem?_eq_getElem hj,List.map_append,<-List.append_assoc]
 rfl
theorem FJ (A:Option Addr)(c:Nat)(hs:List Hs)(w:World)(hl:LLS w A c hs)(hg:∀l∈hs.map (·.l),∀s∈l,0<=s.1/\s.1<=1114111)(hn:hs.length<=1000)(hlen:∀l∈hs.map (·.l),l.length<=1000)(hne:Zk (hs.map (·.l)) hs.length≠[]) :
 Calls Tryz.prog 70 #[.slice A hs.length c] w (gY (hs.map (·.l)) w):=by
 obtain⟨iS,jS0,jS1,jS2,jS3⟩:=info_parts cG;have hcap:=hl.len;have HL:=lh hl;have HLN:=fun i (hi:i<=hs.length)=>(show(Zk (hs.map (·.l)) i).length<=1000000 by
  have h1:=yy hlen i;have:i*1000<=1000*1000:=Nat.mul_le_mul_right _ om;omega)
 have HGD:=fun i (hi:i<hs.length)=>lh (show(hs.map (·.l)).getD i []=hs[i].l by simp[List.getD_eq_getElem?_getD,hi]);have HOK:=lh (L5 hg hs.length);have HNE:=lh hne;obtain⟨LS,hLS⟩:∃LS,Hid (hs.map (·.l)=LS):=⟨_,lh rfl⟩;have HLL:Hid (LS.length=hs.length):=lh (by rw[<-hLS.out];simp);rw[hLS.out] at HLN HGD HOK HNE ⊢;clear hl hg hlen hne;go_enter Tryz.func70,Tryz.ntmps70
 go_upto_region 3 with fail
 go_loopw [3,10] (fun v3 v10 wr=>∃(i:Nat) (B:Option Addr) (d:Nat),v10=.int .i64 i/\i<=hs.length/\v3=.slice B (Zk LS i).length d/\Hid (V2 wr w.heap.size B d (Zk LS i))/\Ext w wr) (fun _ v _=>hs.length-(intOf v).toNat)
 case atStart=>exact⟨0,none,0,rfl,om,rfl,lh (QQ.nil _ _ _ _),Ext.rfl' _⟩
 case round=>
  obtain⟨i,B,d,rfl,hi,rfl,HB,x1⟩:=hrel;by_cases hlt:i<hs.length
  ·have hiI:(i:Int)<hs.length:=om;have HLr:=lh (HL.out.ext x1);obtain⟨rb,ro,hA,cr⟩:=HLr.out.get hlt;have hA':=hA;subst hA';have HSi:=lh (HL.out.sl _ (List.getElem_mem hlt));have hgd:=HGD i hlt;have hl1:=HLN (i+1) om;obtain⟨h,hh⟩:∃h,Hid (hs[i]=h):=⟨_,lh rfl⟩;rw[hh.out] at cr HSi hgd;obtain⟨A0,hA0⟩:∃A0,Hid (h.A=A0):=⟨_,lh rfl⟩;rw[hA0.out] at cr HSi;have hcl:=HSi.out.len;have HB0:Hid (V2 wr w.heap.size B d (XW LS i 0)):=lh (by rw[DT];exact HB.out);have HST:=fun j (hj:j<h.l.length)=>lh (PE LS i hgd.out hj);have HAL:=lh (T0 LS i hgd.out)
   rw[<-DT LS i];have hlj:∀j,j<=h.l.length->(XW LS i j).length<=1000000:=fun j hj=>by
    rw[<-HAL.out] at hl1;have h5:(XW LS i j).length<=(XW LS i h.l.length).length:=by
     unfold XW;rw[hgd.out];simp only[List.length_append,List.length_map,List.length_take];omega
    omega
   clear hl1 hgd HB
   go_upto_region 6 with fail
   clear cr
   go_loopw [3,17] (fun v3 v17 wr=>∃(j:Nat) (B:Option Addr) (d:Nat),v17=.int .i64 j/\j<=h.l.length/\v3=.slice B (XW LS i j).length d/\Hid (V2 wr w.heap.size B d (XW LS i j))/\Ext w wr) (fun _ v _=>h.l.length-(intOf v).toNat)
   case atStart=>exact⟨0,B,d,rfl,om,rfl,HB0,x1⟩
   case round=>
    obtain⟨j,B,d,rfl,hj,rfl,HB,y1⟩:=hrel;by_cases hlt2:j<h.l.length
    ·have hjI:(j:Int)<h.l.length:=om;obtain⟨sb,so,rfl,g1,g2⟩:=(HSi.out.ext y1).get hlt2;have hst:=HST j hlt2;have hlu:=hlj j hj;generalize h.l[j]=s at *;obtain⟨lo,hi2⟩:=s
     simp only at g1 g2 hst
     obtain⟨U,hU⟩:∃U,U=XW LS i j:=⟨_,rfl⟩
     rw[<-hU] at HB hst hlu ⊢;clear hU;obtain⟨b1,xa⟩:=Yy wr 38 #[.int .i64 lo,.int .i64 hi2];obtain⟨p0,p1,_,_,pz⟩:=b1.c2;have X8:=y1.trans xa;have HO8:=lh (QQ.ext HB.out xa);have HU3:=lh (show(U++[(lo,(i:Int))]).length=U.length+1 by simp)
     go_upto_region 8 with fail
     generalize wr.alloc (.cells #[.int .i64 lo,.int .i64 hi2] 38)=wb at *
     go_wp2_with ((at_builtin;refine Qv _ rfl _ _ _ rfl w.heap.size 211 iS (.agg #[.int .i64 0,.int .i64 0]) 2 16 Tryz.underlying132 jS0 jS1 jS2 jS3 rfl om B U.length d (Qz U) rfl (QQ.ext HO8.out (Ext.alloc _ _)) _ 1 1 [.int .i64 lo,.int .i64 i] rfl rfl (QC (Blk.new _ _ _)) (by intro u hu;simp only[List.mem_cons,List.not_mem_nil,or_false] at hu;rcases hu with rfl|rfl<;>rfl) um om (X8.trans (Ext.alloc _ _)).size ?_;intro B8 d8 w8 ho8 hg8 hat8))
     have e8:Ext w w8:=Ext.app (X8.trans (Ext.alloc _ _)) (QQ.ext HO8.out (Ext.alloc _ _)) hg8;have HB8:=lh (show V2 w8 w.heap.size B8 d8 (U++[(lo,(i:Int))]) by
      unfold V2;rw[HU3.out,WL];exact ho8)
     go_roundw
     case rel=>exact⟨j+1,B8,d8,by go_num,om,by rw[hst.out,HU3.out],by rw[hst.out];exact HB8,e8⟩
     case measure=>simp[intOf];omega
    ·have hjI:¬(j:Int)<h.l.length:=om;obtain rfl:j=h.l.length:=om
     go_wp2_with fail
     go_roundw
     case rel=>exact⟨i+1,B,d,by go_num,om,by rw[<-HAL.out],by rw[<-HAL.out];exact HB,y1⟩
     case measure=>simp[intOf];omega
  ·have hiI:¬(i:Int)<hs.length:=om;obtain rfl:i=hs.length:=om;have hB:∃g,B=some ⟨g,0,none⟩/\w.heap.size<=g:=by
    rcases QQ.form HB.out with⟨_,_,_,h0⟩|⟨g,cur,hB,hg,_⟩
    ·exfalso
     have h1:=Q1 (Zk LS hs.length);rw[h0] at h1;simp only[List.length_nil] at h1;exact HNE.out (List.length_eq_zero_iff.1 om)
    ·exact⟨g,hB,hg⟩
   obtain⟨g,rfl,hgb⟩:=hB;have HSRT:=lh (I4 w.heap.size g d (Zk LS hs.length) HOK.out wr HB.out (HLN _ (Nat.le_refl _)));have HHI:=lh (fun s hs'=>L6 (ls:=LS) hs.length s hs');have HNN:=lh (fun s hs'=>CK (ls:=LS) hs.length s hs');obtain⟨U,hU⟩:∃U,Hid (Zk LS hs.length=U):=⟨_,lh rfl⟩;rw[hU.out] at HSRT HHI HNN HOK ⊢;clear HB HNE HLN HGD
   go_upto_region 12 with fail
   refine HSRT.out.mono ?_;rintro e w2 ⟨rfl,m,hp,hs2,hml,hown,hkp⟩;have HP:=lh hp;have HM:=lh hml;have HS2:=lh hs2;clear hp hml hs2 HSRT
   go_wp2_with fail
   go_ret
   refine⟨some ⟨g,0,none⟩,d,m,by rw[HM.out];rfl,SL.of_ownT hown (fun s hs'=>?_),by rw[HLL.out,hU.out];exact HP.out,HS2.out,x1.thenQ hkp hgb⟩;have h1:=HP.out.mem_iff.2 hs';have h2:=HHI.out s h1;have h3:=HNN.out s h1;have h4:=HOK.out s h1;unfold vI at h4;unfold S64 I64;omega
structure Kb where
 A:Option Addr
 c:Nat
 l:List Bool
def zE (r:Kb):Value:=.slice r.A r.l.length r.c
def VM (rows:List Kb):Array Value:=(rows.map zE).toArray
theorem PF (rows:List Kb)(i:Nat)(r:Kb):(VM rows).setIfInBounds i (zE r)=VM (rows.set i r):=by simp[VM,List.map_set]
def GP:Kb:=⟨none,0,[]⟩
theorem Blk.cellR {w:World}{g T:Nat}{rows:List Kb}(h:Blk w g T (VM rows)){i:Nat}(hi:i<rows.length):w.cell? ⟨g,i,none⟩=some (zE rows[i]):=by
 rw[h.cell];simp[VM,hi]
def Ky (l:List Bool):Array Value:=(l.map Value.bool).toArray
theorem DU (l:List Bool)(i:Nat)(x:Bool):(Ky l).setIfInBounds i (.bool x)=Ky (l.set i x):=by simp[Ky,List.map_set]
def upB (f:Nat->Bool)(i n:Nat):List Bool:=(List.range n).map (fun j=>if j<i then f j else false)
theorem wG (f:Nat->Bool)(i n:Nat):(upB f i n).length=n:=by simp[upB]
theorem T3 (f:Nat->Bool)(n:Nat):upB f 0 n=List.replicate n false:=by
 apply List.ext_getElem
 ·simp[upB]
 ·intro j h1 h2;simp[upB]
theorem cH (f:Nat->Bool)(i n:Nat):(upB f i n).set i (f i)=upB f (i+1) n:=by
 apply List.ext_getElem
 ·simp[upB]
 ·intro j h1 h2;rw[List.getElem_set];simp only[upB,List.getElem_map,List.getElem_range];by_cases h:i=j
  ·subst h;simp
  ·rw[if_neg h];by_cases h3:j<i
   ·rw[if_pos h3,if_pos om]
   ·rw[if_neg h3,if_neg om]
theorem IB.of_blkB {w:World}{g T:Nat}{l:List Bool}(h:Blk w g T (Ky l))(hm:l.length<=maxLen):IB w (some ⟨g,0,none⟩) l.length l:=
 ⟨Nat.le_refl _,hm,fun _=>⟨g,0,rfl,fun i hi=>by rw[h.cell];simp[Ky,hi]⟩⟩
theorem gz:(Tryz.prog.info? 51).map (fun i=>(i.zero,i.size,i.bytes))=some (some (.slice none 0 0),1,24):=by kernel_rfl
theorem gv (n:Nat)(h:n<=1000000)(W:World):(Instr.makeSlice 139 (.int .i64 (n:Int)) (.int .i64 (n:Int))).run Tryz.prog W=.ok (.slice (some ⟨W.heap.size,0,none⟩) n n) (W.alloc (.cells (Array.replicate n (.slice none 0 0)) 51)):=by
 obtain⟨i0,hi0,hz0,hz1,hz2⟩:=info_parts gz;have:=run_make (P:=Tryz.prog) W 139 51 i0 (.slice none 0 0) Tryz.underlying139 hi0 hz0 .i64 .i64 n n om (Int.le_refl _) (by rw[hz2];omega) om;rw[this,hz1];simp only[Int.toNat_natCast,Value.cells];rw[JJ]
 simp
theorem GR (n:Nat)(h:n<=1000000)(W:World):(Instr.makeSlice 51 (.int .i64 (n:Int)) (.int .i64 (n:Int))).run Tryz.prog W=.ok (.slice (some ⟨W.heap.size,0,none⟩) n n) (W.alloc (.cells (Ky (List.replicate n false)) 4)):=BE n h W
def kW (cs:List Int)(l:List Sp)(k:Nat):Bool:=has l (cs.getD k 0)
def TyB (w:World)(A:Option Addr):Prop:=∀b,A.map (·.block)=some b->∃cur,w.heap[b]? = some (.cells cur 4 (0,0))
theorem TyB.kp {w w':World}{A:Option Addr}{p:Nat->Prop}(h:TyB w A)(k:KpP p w w')(hp:∀b,p b->∀cur,w.heap[b]?≠some (.cells cur 4 (0,0))):TyB w' A:=fun b hb=>by
 obtain⟨cur,hh⟩:=h b hb;exact⟨cur,(k.block b (Array.getElem?_eq_some_iff.1 hh).1 (fun hq=>hp b hq cur hh)).trans hh⟩
theorem TyB.ext {w w':World}{A:Option Addr}(h:TyB w A)(x:Ext w w'):TyB w' A:=fun b hb=>by
 obtain⟨cur,hh⟩:=h b hb;exact⟨cur,(x.block b (Array.getElem?_eq_some_iff.1 hh).1).trans hh⟩
theorem IB.kpT {w w':World}{A:Option Addr}{c:Nat}{xs:List Bool}{p:Nat->Prop}(h:IB w A c xs)(t:TyB w A)(k:KpP p w w')(hp:∀b,p b->∀cur,w.heap[b]?≠some (.cells cur 4 (0,0))):IB w' A c xs:=by
 refine⟨h.le,h.cap,fun hn=>?_⟩;obtain⟨b,o,rfl,hc⟩:=h.at_ hn;refine⟨b,o,rfl,fun i hi=>?_⟩;obtain⟨cur,hh⟩:=t b rfl;rw[World.cell?_of_block (w:=w) (k.block b (World.block_lt_of_cell? _ _ (hc i hi)) (fun hq=>hp b hq cur hh))];exact hc i hi
structure VZ (wr:World)(hs:List Hin)(cs:List Int)(i:Nat)(rows:List Kb):Prop where
 len:rows.length=hs.length
 val:∀k (hk:k<hs.length) (hk2:k<rows.length),k<i->rows[k].l=if hs[k].op=1 then upB (kW cs hs[k].l) cs.length cs.length else[]
 ib:∀k (hk2:k<rows.length),k<i->IB wr rows[k].A rows[k].c rows[k].l
 ty:∀k (hk2:k<rows.length),k<i->TyB wr rows[k].A
 nil:∀k (hk2:k<rows.length),i<=k->rows[k]=GP
theorem Kp.p3 {L:List Nat}{a b:World}(h:Kp L a b):KpP (·∈L) a b:=⟨h.os,h.tape,h.output,h.size,h.block⟩
theorem IB.kpR {w w':World}{A:Option Addr}{c gH T:Nat}{bs:List Bool}{rows:List Kb}(h:IB w A c bs)(hH:Blk w gH T (VM rows))(k:Kp [gH] w w'):IB w' A c bs:=by
 refine⟨h.le,h.cap,fun hn=>?_⟩;obtain⟨b,o,rfl,hc⟩:=h.at_ hn;refine⟨b,o,rfl,fun i hi=>k.cell (hc i hi) ?_⟩;simp only[List.mem_singleton];rintro rfl;have h1:=hc i hi;rw[hH.cell] at h1;simp only[VM,List.getElem?_toArray,List.getElem?_map,Option.map_eq_some_iff] at h1;obtain⟨r,_,h2⟩:=h1;unfold zE at h2;cases h2
def Z0 (gA:Option Addr)(gn gc:Nat)(H:Value)(M:Value)(mark:Int)(mp:Value)(L:Value):Array Value:=#[.slice gA gn gc,H,M,.int .i64 mark,mp,L]
def lW (gb:Nat)(gA:Option Addr)(gc:Nat)(hs:List Hin)(cs:List Int)(M:Value)(mark:Int)(mp L:Value)(w:World)(e:Ending)(w':World):Prop:=
 ∃(gH:Nat) (rows:List Kb),e=.returned (.tuple #[])/\Blk w' gb 141 (Z0 gA hs.length gc (.slice (some ⟨gH,0,none⟩) hs.length hs.length) M mark mp L)/\Blk w' gH 51 (VM rows)/\VZ w' hs cs hs.length rows/\w.heap.size<=gH/\KpP (·=gb) w w'
theorem PG (w0 w:World)(hx0:Ext w0 w)(gb:Nat)(hgb:w0.heap.size<=gb)(gA:Option Addr)(gc:Nat)(hs:List Hin)(hP:PL w0 gA gc hs)(hn:hs.length<=10000)(C:Option Addr)(cc:Nat)(cs:List Int)(hC:IL w0 C cc cs)(hcs:cs.length<=10000)(H0 M:Value)(mark:Int)(mp L:Value)
 (hb:Blk w gb 141 (Z0 gA hs.length gc H0 M mark mp L)) :
 Calls Tryz.prog 71 #[.pointer (some ⟨gb,0,none⟩),.slice C cs.length cc] w (lW gb gA gc hs cs M mark mp L w):=by
 have hgl:=hP.len;have hcl:=hC.len;have HP:=lh hP;have HC:=lh hC;have HX:=lh hx0;have hmk:=gv hs.length om;have hmb:=GR cs.length om;have q0:w.cell? ⟨gb,0,none⟩=some (.slice gA hs.length gc):=hb.cell 0;have q1:w.cell? ⟨gb,1,none⟩=some H0:=hb.cell 1;have f1:=hb.frz 1;have hgbl:=hb.lt;clear hP hC hx0;go_enter Tryz.func71,Tryz.ntmps71
 go_upto_region 1 with fail
 have B1:=hb.set 1 (.slice (some ⟨w.heap.size,0,none⟩) hs.length hs.length);have K1:KpP (·=gb) w (w.setCell ⟨gb,1,none⟩ (.slice (some ⟨w.heap.size,0,none⟩) hs.length hs.length)):=KpP.set (p:=(·=gb)) (x:=⟨gb,1,none⟩) (KpP.refl _ _) (.inl rfl) _;have hsz:(w.setCell ⟨gb,1,none⟩ (.slice (some ⟨w.heap.size,0,none⟩) hs.length hs.length)).heap.size=w.heap.size:=by simp[World.setCell]
 obtain⟨gH,hgH⟩:∃gH,gH=w.heap.size:=⟨_,rfl⟩;have hbn:gb≠gH:=om
 rw[<-hgH] at B1 K1 hsz ⊢;generalize w.setCell ⟨gb,1,none⟩ (.slice (some ⟨gH,0,none⟩) hs.length hs.length)=wa at *;have BH:=Blk.new wa 51 (Array.replicate hs.length (.slice none 0 0));have EH:=Ext.alloc wa (.cells (Array.replicate hs.length (.slice none 0 0)) 51);rw[hsz] at BH;generalize wa.alloc (.cells (Array.replicate hs.length (.slice none 0 0)) 51)=wb at *;have BH1:Blk wb gH 51 (VM (List.replicate hs.length GP)):=by simpa[VM,zE,GP] using BH
 replace K1:KpP (·=gb) w wb:=KpP.trans K1 (KpP.of_ext EH);have HB0:Hid (Blk wb gb 141 (Z0 gA hs.length gc (.slice (some ⟨gH,0,none⟩) hs.length hs.length) M mark mp L)):=lh (by simpa[Z0] using B1.ext EH);have HGH:=lh hgH;have HR0:Hid (VZ wb hs cs 0 (List.replicate hs.length GP)):=lh ⟨by simp,fun k _ _ h=>absurd h (Nat.not_lt_zero _),fun k _ h=>absurd h (Nat.not_lt_zero _),fun k _ h=>absurd h (Nat.not_lt_zero _),fun k hk _=>by simp⟩;have hq0:wb.cell? ⟨gb,0,none⟩=some (.slice gA hs.length gc):=HB0.out.cell 0;clear hb q0 q1 f1 BH EH B1 hgH hmk hsz
 go_upto_region 2 with fail
 clear hq0
 go_loopw [22] (fun v wr=>∃(i:Nat) (rows:List Kb),v=.int .i64 i/\i<=hs.length/\Hid (Blk wr gb 141 (Z0 gA hs.length gc (.slice (some ⟨gH,0,none⟩) hs.length hs.length) M mark mp L))/\Hid (Blk wr gH 51 (VM rows))/\Hid (VZ wr hs cs i rows)/\Hid (KpP (·=gb) w wr)) (fun v _=>hs.length-(intOf v).toNat)
 case atStart=>exact⟨0,_,rfl,om,HB0,lh BH1,HR0,lh K1⟩
 case round=>
  obtain⟨i,rows,rfl,hi,HB,HH,HR,HK⟩:=hrel;have X0:Ext w0 wr:=HX.out.thenP HK.out (fun k hk=>by have e:k=gb:=hk;omega);by_cases hlt:i<hs.length
  ·have hiI:(i:Int)<hs.length:=om;obtain⟨pb,po,hgA,c0,c1,c2,c3,c4⟩:=(HP.out.ext X0).get hlt;have hgA':=hgA;subst hgA';have hSL:=lh (HP.out.sl _ (List.getElem_mem hlt));obtain⟨h,hh⟩:∃h,Hid (hs[i]=h):=⟨_,lh rfl⟩;rw[hh.out] at c0 c1 c2 c3 c4 hSL;have hll:=hSL.out.len;have BX:=Blk.new wr 126 #[.int .i64 h.op,.int .i64 h.x,.int .i64 h.y,.int .i64 h.n,.slice h.A h.l.length h.c];have EX:=Ext.alloc wr (.cells #[.int .i64 h.op,.int .i64 h.x,.int .i64 h.y,.int .i64 h.n,.slice h.A h.l.length h.c] 126)
   go_upto_region 4 with fail
   generalize wr.alloc (.cells #[.int .i64 h.op,.int .i64 h.x,.int .i64 h.y,.int .i64 h.n,.slice h.A h.l.length h.c] 126)=wx at *;have z0:wx.cell? ⟨wr.heap.size,0,none⟩=some (.int .i64 h.op):=BX.cell 0;have z4:wx.cell? ⟨wr.heap.size,4,none⟩=some (.slice h.A h.l.length h.c):=BX.cell 4;have HBx:=lh (HB.out.ext EX);have HHx:=lh (HH.out.ext EX);have HKx:=lh (KpP.trans HK.out (KpP.of_ext EX));have hrl:=HR.out.len;by_cases hop:h.op=1
   ·rw[hop] at z0;have e1:wx.cell? ⟨gb,1,none⟩=some (.slice (some ⟨gH,0,none⟩) hs.length hs.length):=HBx.out.cell 1;have je1:=fun(w':World) (h:Kp [gH] wx w')=>h.cell e1 (by simpa using hbn);have hgHw:w.heap.size<=gH:=by rw[HGH.out];exact Nat.le_refl _
    have hgHl:gH<wr.heap.size:=HH.out.lt;have hgbl2:gb<wr.heap.size:=HB.out.lt;obtain⟨gx,hgx⟩:∃gx,gx=wr.heap.size:=⟨_,rfl⟩
    rw[<-hgx] at z0 z4 BX hgHl hgbl2 ⊢;have hxl:=BX.lt;clear hgx
    go_upto_region 5 with fail
    refine Xr.start [gH] kr ?_;refine Xtk 0 ?_
    iterate 6(refine Xtn ?_)
    refine Xcl 7 fun w3 hE3 hK3 K hKK=>?_;go_simp;have BR:=Blk.new w3 4 (Ky (List.replicate cs.length false));have ER:=Ext.alloc w3 (.cells (Ky (List.replicate cs.length false)) 4);obtain⟨gR,hgR⟩:∃gR,gR=w3.heap.size:=⟨_,rfl⟩;refine hKK _ _ ER ?_;clear hKK
    rw[<-hgR] at BR ⊢;have hgRx:wx.heap.size<=gR:=by rw[hgR];exact hE3.size
    have hRH:gR≠gH:=by have:=EX.size;omega
    have hRb:gR≠gb:=by have:=EX.size;omega
    have hRx:gR≠gx:=om;clear hgR;refine ptm ?_;refine Xtk 8 ?_;generalize w3.alloc (.cells (Ky (List.replicate cs.length false)) 4)=wz at *;refine Xsp 9 fun w4 hE4 hK4 K hKK=>?_;have H4:=HHx.out.ext ((hE3.trans ER).trans hE4);have c4x:=H4.cellR (i:=i) (by rw[hrl];exact hlt);have f4x:=H4.frz i;go_simp;refine hKK _ _ (QM (Q4 _ _ _) List.mem_cons_self _ _) (hK4.setL List.mem_cons_self _ _) ?_;clear hKK;refine ptm ?_;refine Xdn fun w5 hE5 hK5=>?_;obtain⟨r0,hr0⟩:∃r0:Kb,r0=⟨some ⟨gR,0,none⟩,cs.length,upB (kW cs h.l) cs.length cs.length⟩:=⟨_,rfl⟩;have hcr:zE r0=.slice (some ⟨gR,0,none⟩) cs.length cs.length:=by rw[hr0];unfold zE;simp only[wG]
    have H5:=(H4.set i (.slice (some ⟨gR,0,none⟩) cs.length cs.length)).ext hE5
    rw[<-hcr,PF] at H5;have R5:Blk w5 gR 4 (Ky (upB (kW cs h.l) 0 cs.length)):=by
     rw[T3];exact((BR.ext hE4).far (p:=⟨gH,i,none⟩) hRH _).ext hE5
    have HH5:=lh H5;have HR5:=lh R5;have HCR:=lh hcr;have HR0':=lh hr0;clear H4 c4x f4x H5 R5 BR hE3 hK3 ER hE4 hK4 hE5 je1 hcr hr0
    go_upto_region 7 with fail
    go_loopw [41] (fun v wr=>∃k:Nat,v=.int .i64 k/\k<=cs.length/\Hid (Blk wr gH 51 (VM (rows.set i r0)))/\Hid (Blk wr gR 4 (Ky (upB (kW cs h.l) k cs.length)))/\Kp [gH] wx wr) (fun v _=>cs.length-(intOf v).toNat)
    case atStart=>exact⟨0,rfl,om,HH5,HR5,hK5⟩
    case round=>
     obtain⟨k,rfl,hk,HHr,HRr,HKr⟩:=hrel;have HKw:=lh (KpP.thenKp HKx.out HKr (fun i hi=>by
      have e:i=gH:=by simpa using hi
      right;omega))
     have Xr0:Ext w0 wr:=HX.out.thenP HKw.out (fun k hk=>by have e:k=gb:=hk;omega);by_cases hlt2:k<cs.length
     ·have hkI:(k:Int)<cs.length:=om;obtain⟨cb,co,hCA,ck⟩:=(HC.out.ext Xr0).get hlt2;have hCA':=hCA;subst hCA';have hbr:wr.cell? ⟨gb,1,none⟩=some (.slice (some ⟨gH,0,none⟩) hs.length hs.length):=HKr.cell e1 (by simpa using hbn);have hxr:wr.cell? ⟨gx,4,none⟩=some (.slice h.A h.l.length h.c):=HKr.cell z4 (by simp;omega);have hir:=HHr.out.cellR (i:=i) (by rw[List.length_set,hrl];exact hlt);have hget:(rows.set i r0)[i]'(by rw[List.length_set,hrl];exact hlt)=r0:=by simp
      rw[hget,HCR.out] at hir;have HV:=lh (show kW cs h.l k=has h.l cs[k] by simp[kW,List.getD_eq_getElem?_getD,hlt2]);have HS:=fun(w':World) (x:Ext wr w')=>lh (SV h.A h.c h.l cs[k] w' (hSL.out.ext (Xr0.trans x)));generalize cs[k]=x at *;generalize has h.l x=bv at *;have j1:=fun(w':World) (h:Kp [gR] wr w')=>h.cell hbr (by simpa using hRb.symm);have j2:=fun(w':World) (h:Kp [gR] wr w')=>h.cell hxr (by simpa using hRx.symm);have j3:=fun(w':World) (h:Kp [gR] wr w')=>h.cell hir (by simpa using hRH.symm);clear hget
      go_upto_region 9 with fail
      refine Xr.start [gR] kr ?_;refine Xtk 0 ?_
      iterate 10(refine Xtn ?_)
      refine Xcl 11 fun w4 hE4 hK4 K hKK=>?_;go_simp;refine(HS w4 hE4).out.mono ?_;rintro e w5 ⟨rfl,x5⟩;refine hKK _ _ x5 ?_;clear hKK;refine ptm ?_;refine Xtk 12 ?_;have E45:=hE4.trans x5;refine Xsp 13 fun w6 hE6 hK6 K hKK=>?_;have R6:=HRr.out.ext (E45.trans hE6);have c6:w6.cell? ⟨gR,k,none⟩=some (.bool ((upB (kW cs h.l) k cs.length).getD k false)):=by
       rw[R6.cell];simp[Ky,upB,hlt2,List.getD_eq_getElem?_getD]
      have f6:=R6.frz k;go_simp;refine hKK _ _ (QM (Q4 _ _ _) List.mem_cons_self _ _) (hK6.setL List.mem_cons_self _ _) ?_;clear hKK;refine ptm ?_;refine Xdn fun w7 hE7 hK7=>?_;have R7:=(R6.set k (.bool bv)).ext hE7;rw[DU,<-HV.out,cH] at R7;have HR7:=lh R7;have HH7:=lh (((HHr.out.ext (E45.trans hE6)).far (p:=⟨gR,k,none⟩) hRH.symm (.bool bv)).ext hE7);have K7:Kp [gH] wx w7:=(((HKr.ext (E45.trans hE6)).set (p:=⟨gR,k,none⟩) (.inr hgRx) (.bool bv))).ext hE7;clear R6 R7 c6 f6 j1 j2 j3
      go_wp2_with fail
      go_roundw
      case rel=>exact⟨k+1,by go_num,om,HH7,HR7,K7⟩
      case measure=>simp[intOf];omega
     ·have hkI:¬(k:Int)<cs.length:=om;obtain rfl:k=cs.length:=om;have HB9:=lh (Kp.blk HBx.out HKr (by simpa using hbn));have hR0:=HR0'.out;have HR9:Hid (VZ wr hs cs (i+1) (rows.set i r0)):=lh ⟨by rw[List.length_set];exact hrl,fun k hk hk2 hki=>by
       rw[List.length_set] at hk2;by_cases e:i=k
       ·subst e;rw[List.getElem_set_self,hR0,if_pos (by rw[hh.out];exact hop),hh.out]
       ·rw[List.getElem_set_ne e];exact HR.out.val k hk hk2 om,fun k hk2 hki=>by
       rw[List.length_set] at hk2;by_cases e:i=k
       ·subst e;rw[List.getElem_set_self,hR0];have h9:=IB.of_blkB HRr.out (by rw[wG];unfold maxLen;omega);rw[wG] at h9;exact h9
       ·rw[List.getElem_set_ne e];exact((HR.out.ib k hk2 om).ext EX).kpR HHx.out HKr,fun k hk2 hki=>by
       rw[List.length_set] at hk2;by_cases e:i=k
       ·subst e;rw[List.getElem_set_self,hR0];intro b hb;have e:gR=b:=by simpa using hb
        subst e;exact⟨_,HRr.out⟩
       ·rw[List.getElem_set_ne e];exact((HR.out.ty k hk2 om).ext EX).kp (Kp.p3 HKr) (fun b hb cur hh=>by
         have e:b=gH:=by simpa using hb
         subst e;have h9:=HHx.out;unfold Blk at h9;rw[h9] at hh;injection hh with hh;injection hh with _ h3
         revert h3;decide),fun k hk2 hki=>by
       rw[List.length_set] at hk2;rw[List.getElem_set_ne om];exact HR.out.nil k hk2 om⟩
      clear hR0
      go_wp2_with fail
      go_roundw
      case rel=>exact⟨i+1,rows.set i r0,by go_num,om,HB9,HHr,HR9,HKw⟩
      case measure=>simp[intOf];omega
   ·have hopb:(h.op != 1)=true:=by simpa using hop
    have HR2:Hid (VZ wx hs cs (i+1) rows):=lh ⟨hrl,fun k hk hk2 hki=>by
     rcases Nat.lt_or_ge k i with h3|h3
     ·exact HR.out.val k hk hk2 h3
     ·have e:k=i:=om;subst e;rw[HR.out.nil k hk2 (Nat.le_refl _),if_neg (by rw[hh.out];exact hop)]
      rfl,fun k hk2 hki=>by
     rcases Nat.lt_or_ge k i with h3|h3
     ·exact(HR.out.ib k hk2 h3).ext EX
     ·rw[HR.out.nil k hk2 h3];exact⟨Nat.le_refl _,Nat.zero_le _,fun hn=>absurd rfl hn⟩,fun k hk2 hki=>by
     rcases Nat.lt_or_ge k i with h3|h3
     ·exact(HR.out.ty k hk2 h3).ext EX
     ·rw[HR.out.nil k hk2 h3];exact fun b hb=>by simp[GP] at hb,fun k hk2 hki=>HR.out.nil k hk2 om⟩
    clear HR HB HH HK
    go_wp2_with fail
    go_roundw
    case rel=>exact⟨i+1,rows,by go_num,om,HBx,HHx,HR2,HKx⟩
    case measure=>simp[intOf];omega
  ·have hiI:¬(i:Int)<hs.length:=om;obtain rfl:i=hs.length:=om
   go_wp2_with fail
   exact bodyPost_ret (v:=.tuple #[]) (by simp[results,Tryz.results71,go_sem]) rfl ⟨gH,rows,rfl,HB.out,HH.out,HR.out,by rw[HGH.out];exact Nat.le_refl _,HK.out⟩
structure Vk (n:Nat)(s:List Nat×List Nat):Prop where
 ok:Zy n s.2
 len:s.1.length<=s.2.length
 lt:∀p∈s.1,p<n
theorem Vk.see {n:Nat}{s:List Nat×List Nat}(h:Vk n s){pc:Nat}(hp:pc<n)(hn:pc∉s.2):Vk n (s.1,s.2++[pc]):=
 ⟨h.ok.snoc hp hn,by have:=h.len;simp only[List.length_append,List.length_cons,List.length_nil];omega,h.lt⟩
theorem Vk.put {n:Nat}{s:List Nat×List Nat}(h:Vk n s){pc:Nat}(hp:pc<n)(hn:pc∉s.2):Vk n (s.1++[pc],s.2++[pc]):=
 ⟨h.ok.snoc hp hn,by have:=h.len;simp only[List.length_append,List.length_cons,List.length_nil];omega,fun p hp2=>by
  rcases List.mem_append.1 hp2 with h1|h1
  ·exact h.lt p h1
  ·have:p=pc:=by simpa using h1
   omega⟩
theorem VQ {G:List Ins}:∀f s pc,Vk G.length s->Vk G.length (Q2 G f s pc).1/\s.2.length<=(Q2 G f s pc).1.2.length
 | 0,s,pc,h=>⟨h,Nat.le_refl _⟩
 | f+1,s,pc,h=>by
  unfold Q2
  split
  ·exact⟨h,Nat.le_refl _⟩
  ·rename_i hn
   split
   ·exact⟨h,Nat.le_refl _⟩
   ·rename_i i hi
    obtain⟨hlt,_⟩:=List.getElem?_eq_some_iff.1 hi;have h1:=h.see hlt hn;have hl:s.2.length<=(s.2++[pc]).length:=by simp
    split
    ·have h2:=VQ f (s.1,s.2++[pc]) i.x.toNat h1
     split
     ·have h3:=VQ f _ i.y.toNat h2.1;exact⟨h3.1,Nat.le_trans hl (Nat.le_trans h2.2 h3.2)⟩
     ·exact⟨h2.1,Nat.le_trans hl h2.2⟩
    ·split
     ·have h2:=VQ f (s.1,s.2++[pc]) i.x.toNat h1;exact⟨h2.1,Nat.le_trans hl h2.2⟩
     ·split
      ·have h2:=VQ f (s.1,s.2++[pc]) (pc+1) h1;exact⟨h2.1,Nat.le_trans hl h2.2⟩
      ·exact⟨h.put hlt hn,hl⟩
structure LsP where
 base:Nat
 gB:Nat
 gl:Nat
 ga:Nat
 gb:Nat
 gM:Nat
structure LsI (wr w0:World)(p:LsP)(gA:Option Addr)(gc:Nat)(n:Nat)(H:Value)(mark:Int)(mp L:Value)(s:List Nat×List Nat):Prop where
 ext:Ext w0 wr
 bB:Blk wr p.gB 137 #[.pointer (some ⟨p.gb,0,none⟩)]
 bA:Blk wr p.ga 221 #[.func (.func 160) #[] #[.pointer (some ⟨p.gB,0,none⟩),.pointer (some ⟨p.gl,0,none⟩),.pointer (some ⟨p.ga,0,none⟩)]]
 bl:∃A c,Blk wr p.gl 22 #[.slice A s.1.length c]/\QQ wr p.base 3 1 A s.1.length c ((Q3 s.1).map (Value.int .i64))
 bb:Blk wr p.gb 141 (Z0 gA n gc H (.slice (some ⟨p.gM,0,none⟩) n n) mark mp L)
 bm:∃ms,Blk wr p.gM 3 (Wy ms)/\ms.length=n/\∀i,i<n->((ms.getD i 0=mark<->i∈s.2)/\ms.getD i 0<=mark)
 lM:p.gM<p.base
 l0:w0.heap.size<=p.gM
 ll:p.base<=p.gl
theorem LsI.extW {wr w' w0:World}{p:LsP}{gA:Option Addr}{gc n:Nat}{H mp L:Value}{mark:Int}{s:List Nat×List Nat}(h:LsI wr w0 p gA gc n H mark mp L s)(x:Ext wr w'):LsI w' w0 p gA gc n H mark mp L s:=by
 obtain⟨h1,h2,h3,⟨A,c,h4,h5⟩,h6,⟨ms,h7,h8⟩,h9,h10,h11⟩:=h;exact⟨h1.trans x,h2.ext x,h3.ext x,⟨A,c,h4.ext x,QQ.ext h5 x⟩,h6.ext x,⟨ms,h7.ext x,h8⟩,h9,h10,h11⟩
theorem LsI.mark {wr w0:World}{p:LsP}{gA:Option Addr}{gc n:Nat}{H mp L:Value}{mark:Int}{s:List Nat×List Nat}(h:LsI wr w0 p gA gc n H mark mp L s){pc:Nat}(hp:pc<n) :
 LsI (wr.setCell ⟨p.gM,pc,none⟩ (.int .i64 mark)) w0 p gA gc n H mark mp L (s.1,s.2++[pc]):=by
 obtain⟨h1,h2,h3,⟨A,c,h4,h5⟩,h6,⟨ms,h7,h8,h8'⟩,h9,h10,h11⟩:=h;have d1:=Qq h2 h7 de;have d2:=Qq h3 h7 de;have d3:=Qq h4 h7 de;have d4:=Qq h6 h7 de;refine⟨h1.setNew h10 _,h2.far d1 _,h3.far d2 _,⟨A,c,h4.far d3 _,QQ.far h5 (fun e=>?_) _⟩,h6.far d4 _,⟨ms.set pc mark,?_,by rw[List.length_set];exact h8,fun i hi=>?_⟩,h9,h10,h11⟩
 ·have:=QQ.row h5 _ e
  simp only at this;omega
 ·rw[<-zz];exact h7.set pc _
 ·have hi2:i<ms.length:=om;have h12:=h8' i hi;simp only[List.getD_eq_getElem?_getD] at h12;simp only[List.getD_eq_getElem?_getD,List.getElem?_set,List.mem_append,List.mem_singleton];by_cases e:pc=i
  ·subst e;simp[hi2]
  ·rw[if_neg e];refine⟨⟨fun h13=>.inl (h12.1.1 h13),?_⟩,h12.2⟩;rintro(h13|h13)
   ·exact h12.1.2 h13
   ·exact absurd h13.symm e
def LsK (p:LsP)(w:World)(b:Nat):Prop:=b=p.gM\/(p.base<=b/\(b=p.gl\/∃cur,w.heap[b]? = some (.cells cur 3 (0,0))))
theorem LsK.chain {p:LsP}{w w1 w2:World}(h:KpP (LsK p w) w w1)(k:KpP (LsK p w1) w1 w2):KpP (LsK p w) w w2:=
 ⟨k.os.trans h.os,k.tape.trans h.tape,k.output.trans h.output,Nat.le_trans h.size k.size,fun i hi hn=>by
  have h1:=h.block i hi hn;refine(k.block i (Nat.lt_of_lt_of_le hi h.size) (fun hq=>hn ?_)).trans h1;rcases hq with hq|⟨h2,hq|⟨cur,hq⟩⟩
  ·exact .inl hq
  ·exact .inr ⟨h2,.inl hq⟩
  ·exact .inr ⟨h2,.inr ⟨cur,h1▸hq⟩⟩⟩
theorem LsK.blk {p:LsP}{w w1:World}(h:KpP (LsK p w) w w1){g T:Nat}{cs:Array Value}(hb:Blk w g T cs)(hM:g≠p.gM)(hl:g≠p.gl)(hT:T≠3):Blk w1 g T cs:=
 (h.block g hb.lt (fun hq=>by
  rcases hq with hq|⟨_,hq|⟨cur,hq⟩⟩
  ·exact hM hq
  ·exact hl hq
  ·unfold Blk at hb;rw[hb] at hq;injection hq with hq;injection hq with _ h2
   exact hT h2)).trans hb
def cI (w0:World)(p:LsP)(gA:Option Addr)(gc n:Nat)(H:Value)(mark:Int)(mp L:Value)(r:(List Nat×List Nat)×Bool)(w:World)(e:Ending)(w':World):Prop:=
 e=.returned (.bool r.2)/\LsI w' w0 p gA gc n H mark mp L r.1/\KpP (LsK p w) w w'
theorem PH:∀args w,(callFunc 160 args).run Tryz.prog w=.ok (.enter 160 args) w:=enters_of Tryz.func160 kr rfl
theorem GT {G:List Ins}{f pc:Nat}{s:List Nat×List Nat}(h:pc∈s.2):Q2 G (f+1) s pc=(s,true):=by
 unfold Q2;rw[if_pos h]
theorem D0 {G:List Ins}{f pc:Nat}{s:List Nat×List Nat}{i:Ins}(h:pc∉s.2)(hi:G[pc]? = some i):Q2 G (f+1) s pc =
 if i.op=2 then
  if(Q2 G f (s.1,s.2++[pc]) i.x.toNat).2=true then Q2 G f (Q2 G f (s.1,s.2++[pc]) i.x.toNat).1 i.y.toNat
  else Q2 G f (s.1,s.2++[pc]) i.x.toNat
 else if i.op=3 then Q2 G f (s.1,s.2++[pc]) i.x.toNat
 else if i.op=4 then Q2 G f (s.1,s.2++[pc]) (pc+1)
 else((s.1++[pc],s.2++[pc]),decide (i.op≠0)):=by
 conv=>lhs;unfold Q2
 rw[if_neg h,hi]
theorem cL {wx w8 w0:World}{base gB gl ga gb gM:Nat}{gA:Option Addr}{gc n:Nat}{H mp L:Value}{mark:Int}{s:List Nat×List Nat}{pc:Nat}{LA A8:Option Addr}{lc c8:Nat}
 (h:LsI wx w0 ⟨base,gB,gl,ga,gb,gM⟩ gA gc n H mark mp L (s.1,s.2++[pc])) (hg:(wx.alloc (.cells #[.int .i64 pc] 3)).grownBy w8 (LA.map (·.block)))
 (ho:QQ w8 base 3 1 A8 (s.1.length+1) c8 ((Q3 s.1).map (Value.int .i64)++[.int .i64 pc])) (ol:QQ wx base 3 1 LA s.1.length lc ((Q3 s.1).map (Value.int .i64))) :
 LsI (w8.setCell ⟨gl,0,none⟩ (.slice A8 (s.1.length+1) c8)) w0 ⟨base,gB,gl,ga,gb,gM⟩ gA gc n H mark mp L (s.1++[pc],s.2++[pc]):=by
 obtain⟨h1,h2,h3,⟨A,c,h4,h5⟩,h6,⟨ms,h7,h8,h8'⟩,h9,h10,h11⟩:=h;have X:=Ext.alloc wx (.cells #[.int .i64 pc] 3);have k:=KpP.of_grown hg;have olx:=QQ.ext ol X;have hM:LA.map (·.block)≠some gM:=fun e=>by
  have:=QQ.row olx _ e
  simp only at h9;omega
 have b2:=k.blk (h2.ext X) (QK olx (h2.ext X) de);have b3:=k.blk (h3.ext X) (QK olx (h3.ext X) de);have b4:=k.blk (h4.ext X) (QK olx (h4.ext X) de);have b6:=k.blk (h6.ext X) (QK olx (h6.ext X) de);have b7:=k.blk (h7.ext X) hM;have d2:=Qq b2 b4 de;have d3:=Qq b3 b4 de;have d6:=Qq b6 b4 de;have d7:=Qq b7 b4 de;have x8:Ext w0 w8:=(h1.trans X).grown hg (fun i hi=>by
  have:=QQ.row olx _ hi
  simp only at h9 h10 h11;omega)
 refine⟨x8.setNew (by simp only at h9 h10 h11;simp only;omega) _,b2.far d2 _,b3.far d3 _,⟨A8,c8,?_,?_⟩,b6.far d6 _,⟨ms,b7.far d7 _,h8,h8'⟩,h9,h10,h11⟩
 ·have b:=b4.set 0 (.slice A8 (s.1.length+1) c8)
  simpa using b
 ·have e:(Q3 (s.1++[pc])).map (Value.int .i64)=(Q3 s.1).map (Value.int .i64)++[.int .i64 pc]:=by simp[Q3]
  have e2:(s.1++[pc]).length=s.1.length+1:=by simp
  simp only[e,e2];exact QQ.far ho (fun e=>by
   have:=QK ho b4 de;exact this e) _
theorem cN {p:LsP}{wa w8:World}{LA:Option Addr}{n lc:Nat}{xs:List Value}(ll:p.base<=p.gl)(hg:wa.grownBy w8 (LA.map (·.block)))(ol:QQ wa p.base 3 1 LA n lc xs)(v:Value):KpP (LsK p wa) wa (w8.setCell ⟨p.gl,0,none⟩ v):=by
 refine KpP.set (x:=⟨p.gl,0,none⟩) (KpP.mono (KpP.of_grown hg) (fun i hi=>?_)) (.inl (.inr ⟨ll,.inl rfl⟩)) v;obtain⟨_,cur,hh⟩:=QQ.blt ol hi;exact .inr ⟨QQ.row ol _ hi,.inr ⟨cur,hh⟩⟩
theorem aK {P:Prop} (h:P:=by
 obtain⟨LA,lc,bl,ol⟩:=hIx.out.bl;have bl':Blk wx gl 22 #[.slice LA s.1.length lc]:=bl;have ol':QQ wx base 3 1 LA s.1.length lc ((Q3 s.1).map (Value.int .i64)):=ol;have hsl:s.1.length<=hs.length:=by have:=HAP.out.len;have:=HAP.out.ok.len;simp only[List.length_append,List.length_cons,List.length_nil] at *;omega
 have hbs:base<=wx.heap.size:=by have:=bl'.lt;omega
 have HX8:=lh hIx.out;have hl0:wx.cell? ⟨gl,0,none⟩=some (.slice LA s.1.length lc):=bl'.cell 0;obtain⟨iI,jI0,jI1,jI2,jI3⟩:=info_parts Px;have EP:=Ext.alloc wx (.cells #[.int .i64 pc] 3);have HBL:=fun(w8:World) (hg:(wx.alloc (.cells #[.int .i64 pc] 3)).grownBy w8 (LA.map (·.block)))=>(KpP.of_grown hg).blk (bl'.ext EP) (QK (QQ.ext ol' EP) (bl'.ext EP) de);clear HST HIH hju hju2 hnx bl ol z1 hIx
 go_wp2_with ((at_builtin;refine Qv _ rfl _ _ _ rfl base 3 iI (.int .i64 0) 1 8 Tryz.underlying22 jI0 jI1 jI2 jI3 rfl om LA s.1.length lc ((Q3 s.1).map (Value.int .i64)) rfl (QQ.ext ol' (Ext.alloc _ _)) _ 1 1 [.int .i64 pc] rfl rfl (QC (Blk.new _ _ _)) (by intro u hu;simp only[List.mem_cons,List.not_mem_nil,or_false] at hu;rcases hu with rfl;rfl) um om (Nat.le_trans hbs (Ext.alloc _ _).size) ?_;intro A8 c8 w8 ho8 hg8 hat8;have cl8:=(HBL w8 hg8).cell 0;have fl8:=(HBL w8 hg8).frz 0))
 have K8:=(Kx.trans (KpP.of_ext (Ext.alloc wx (.cells #[.int .i64 pc] 3))));have h8:=cL HX8.out hg8 ho8 ol';have KK:=cN (p:=⟨base,gB,gl,ga,gb,gM⟩) ll hg8 (QQ.ext ol' (Ext.alloc wx (.cells #[.int .i64 pc] 3)));go_ret
 exact⟨by rw[HR.out];rfl,by rw[HR.out];exact h8,LsK.chain K8 (KK _)⟩):P:=h
theorem aV {P:Prop} (h:P:=by
 go_wp2_with (go_at_fn 160;refine HC.out.mono ?_;rintro e w7 ⟨rfl,h7,k7⟩)
 go_ret
 exact⟨by rw[HR.out];rfl,by rw[HR.out];exact h7,LsK.chain Kx k7⟩):P:=h
theorem T4 (w0:World)(base gB gl ga gb gM:Nat)(gA:Option Addr)(gc:Nat)(hs:List Hin)(runes:Bool)(caps:Int)(hG:GOk runes caps (QW hs))(hP:PL w0 gA gc hs)(H:Value)(mark:Int)(mp L:Value) :
 ∀(f:Nat) (w:World) (s:List Nat×List Nat) (pc:Nat),LsI w w0 ⟨base,gB,gl,ga,gb,gM⟩ gA gc hs.length H mark mp L s->Vk hs.length s->hs.length<f+s.2.length->pc<hs.length->
 Calls Tryz.prog 160 #[.int .i64 pc,.pointer (some ⟨gB,0,none⟩),.pointer (some ⟨gl,0,none⟩),.pointer (some ⟨ga,0,none⟩)] w (cI w0 ⟨base,gB,gl,ga,gb,gM⟩ gA gc hs.length H mark mp L (Q2 (QW hs) f s pc) w):=by
 intro f;induction f with
 | zero=>
  intro w s pc hI hA hf hp;have:=hA.ok.len;omega
 | succ f ih=>
  intro w s pc hI hA hf hp;have eg:=PH;obtain⟨x0,bB,bA,⟨A,c,bl,ol⟩,bb,⟨ms,bm,hml,hmk⟩,lM,l0,ll⟩:=hI
  simp only at bB bA bl ol bb bm lM l0 ll
  have hI:=lh (show LsI w w0 ⟨base,gB,gl,ga,gb,gM⟩ gA gc hs.length H mark mp L s from⟨x0,bB,bA,⟨A,c,bl,ol⟩,bb,⟨ms,bm,hml,hmk⟩,lM,l0,ll⟩);have hgl:=hP.len;have hn8:=hG.len;rw[Qw] at hn8;have hpI:(pc:Int)<hs.length:=om;have hpm:pc<ms.length:=om;have cB:w.cell? ⟨gB,0,none⟩=some (.pointer (some ⟨gb,0,none⟩)):=bB.cell 0;have cM:w.cell? ⟨gb,2,none⟩=some (.slice (some ⟨gM,0,none⟩) hs.length hs.length):=bb.cell 2;have ck:w.cell? ⟨gb,3,none⟩=some (.int .i64 mark):=bb.cell 3;have cm:w.cell? ⟨gM,pc,none⟩=some (.int .i64 ms[pc]):=by rw[bm.cell];simp[Wy,hpm]
  have hmp:=(hmk pc hp).1;have hgd:ms.getD pc 0=ms[pc]:=by simp[List.getD_eq_getElem?_getD,hpm]
  rw[hgd] at hmp;clear hgd hmk hml;by_cases hm:pc∈s.2
  ·have hx:=hmp.2 hm;rw[hx] at cm;rw[GT hm];have j1:=kc0 cB;have j2:=kc0 cM;have j3:=kc0 ck;have j4:=kc0 cm;clear hx hmp hm hf hA bB bA bl ol bb bm ih;go_enter Tryz.func160,Tryz.ntmps160
   go_upto_region 1 with fail
   refine Xr.start [] kr ?_;refine Xtk 0 ?_
   iterate 11(refine Xtn ?_)
   refine Xdn fun w4 hE4 hK4=>?_;clear j1 j2 j3 j4
   go_wp2_with fail
   go_ret
   exact⟨rfl,hI.out.extW hE4,KpP.of_ext hE4⟩
  ·have hx:(ms[pc] == mark)=false:=by
    rw[beq_eq_false_iff_ne];exact fun e=>hm (hmp.1 e)
   have hins:=qG hp;have HST:=lh (D0 (f:=f) hm hins);have HAS:=lh (hA.see hp hm);have HAP:=lh (hA.put hp hm);obtain⟨r,hr⟩:∃r,Hid (Q2 (QW hs) (f+1) s pc=r):=⟨_,lh rfl⟩;rw[hr.out] at HST ⊢;have nB:=Qq bB bm de;have nb:=Qq bb bm de;generalize ms[pc]=mx at *;clear hmp;have j1:=kc0 cB;have j2:=kc0 cM;have j3:=kc0 ck;have j4:=kc0 cm;have HIH:=lh ih;have HG:=lh hG;clear ih hG;go_enter Tryz.func160,Tryz.ntmps160
   go_upto_region 1 with fail
   refine Xr.start [] kr ?_;refine Xtk 0 ?_
   iterate 11(refine Xtn ?_)
   refine Xdn fun w4 hE4 hK4=>?_;clear j1 j2 j3 j4;have k1:=fun(w':World) (h:Kp [gM] w4 w')=>h.cell (hE4.cell cB) (by simpa using nB);have k2:=fun(w':World) (h:Kp [gM] w4 w')=>h.cell (hE4.cell cM) (by simpa using nb);have k3:=fun(w':World) (h:Kp [gM] w4 w')=>h.cell (hE4.cell ck) (by simpa using nb)
   go_upto_region 3 with fail
   refine Xr.start [gM] kr ?_;refine Xtk 0 ?_
   iterate 9(refine Xtn ?_)
   refine Xsp 10 fun w5 hE5 hK5 K hKK=>?_;have c5:=(hE4.trans hE5).cell cm;have f5:=(bm.ext (hE4.trans hE5)).frz pc;go_simp;refine hKK _ _ (QM (Q4 _ _ _) List.mem_cons_self _ _) (hK5.setL List.mem_cons_self _ _) ?_;clear hKK;refine ptm ?_;refine Xdn fun w6 hE6 hK6=>?_;have hI6:=lh (((hI.out.extW (hE4.trans hE5)).mark hp).extW hE6);have K6:KpP (LsK ⟨base,gB,gl,ga,gb,gM⟩ w) w w6:=(KpP.set (x:=⟨gM,pc,none⟩) (KpP.of_ext (hE4.trans hE5)) (.inl (.inl rfl)) (.int .i64 mark)).trans (KpP.of_ext hE6);clear k1 k2 k3 c5 f5 hE4 hK4 hE5 hK5 hE6 hK6 cB cM ck cm bB bA bl ol bb bm hx;have cB:w6.cell? ⟨gB,0,none⟩=some (.pointer (some ⟨gb,0,none⟩)):=hI6.out.bB.cell 0;have c0b:w6.cell? ⟨gb,0,none⟩=some (.slice gA hs.length gc):=hI6.out.bb.cell 0;obtain⟨pb,po,hgA,c0,c1,c2,c3,c4⟩:=(hP.ext hI6.out.ext).get hp;have hgA':=hgA;subst hgA';obtain⟨h,hh⟩:∃h,Hid (hs[pc]=h):=⟨_,lh rfl⟩;rw[hh.out] at c0 c1 c2 c3 c4 HST;have BX:=Blk.new w6 126 #[.int .i64 h.op,.int .i64 h.x,.int .i64 h.y,.int .i64 h.n,.slice h.A h.l.length h.c];have EX:=Ext.alloc w6 (.cells #[.int .i64 h.op,.int .i64 h.x,.int .i64 h.y,.int .i64 h.n,.slice h.A h.l.length h.c] 126)
   go_upto_region 5 with fail
   obtain⟨gx,hgx⟩:∃gx,gx=w6.heap.size:=⟨_,rfl⟩
   rw[<-hgx] at BX ⊢;generalize w6.alloc (.cells #[.int .i64 h.op,.int .i64 h.x,.int .i64 h.y,.int .i64 h.n,.slice h.A h.l.length h.c] 126)=wx at *;have hIx:=lh (hI6.out.extW EX);have Kx:=K6.trans (KpP.of_ext EX);have hMx:gx≠gM:=by
    obtain⟨ms,b,_⟩:=hIx.out.bm;exact Qq BX b de
   have hlx:gx≠gl:=by
    obtain⟨A,c,b,_⟩:=hIx.out.bl;exact Qq BX b de
   have z0:wx.cell? ⟨gx,0,none⟩=some (.int .i64 h.op):=BX.cell 0;have z1:wx.cell? ⟨gx,1,none⟩=some (.int .i64 h.x):=BX.cell 1;have hpG:pc<(QW hs).length:=by rw[Qw];exact hp
   have hgi:(QW hs)[pc]=h.ins:=by rw[WM,hh.out]
   have hop:=HG.out.op hpG;have hnx:=HG.out.next hpG;have hju:=HG.out.jump hpG;have hju2:=HG.out.jump2 hpG;rw[hgi] at hop hnx hju hju2;rw[Qw] at hnx hju hju2;have ca:wx.cell? ⟨ga,0,none⟩=some (.func (.func 160) #[] #[.pointer (some ⟨gB,0,none⟩),.pointer (some ⟨gl,0,none⟩),.pointer (some ⟨ga,0,none⟩)]):=hIx.out.bA.cell 0;clear hgi hpG cB c0b c0 c1 c2 c3 c4 hI6 K6 hgx hI;have hfs:hs.length<f+(s.2++[pc]).length:=by simp only[List.length_append,List.length_cons,List.length_nil];omega
   have hop':h.op=0\/h.op=1\/h.op=2\/h.op=3\/h.op=4:=hop;clear hop;by_cases h0:h.op=0
   ·skip
    rw[h0] at z0;have HR:Hid (r=((s.1++[pc],s.2++[pc]),false)):=lh (by
     rw[HST.out,if_neg (show ¬h.ins.op=2 from by show ¬h.op=2;omega),if_neg (show ¬h.ins.op=3 from by show ¬h.op=3;omega),if_neg (show ¬h.ins.op=4 from by show ¬h.op=4;omega)];have e:decide (h.ins.op≠0)=false:=by
      show decide (h.op≠0)=false
      rw[h0];rfl
     rw[e])
    exact aK
   ·by_cases h1:h.op=1
    ·skip
     rw[h1] at z0;have HR:Hid (r=((s.1++[pc],s.2++[pc]),true)):=lh (by
      rw[HST.out,if_neg (show ¬h.ins.op=2 from by show ¬h.op=2;omega),if_neg (show ¬h.ins.op=3 from by show ¬h.op=3;omega),if_neg (show ¬h.ins.op=4 from by show ¬h.op=4;omega)];have e:decide (h.ins.op≠0)=true:=by
       show decide (h.op≠0)=true
       rw[h1];rfl
      rw[e])
     exact aK
    ·by_cases h2:h.op=2
     ·skip
      obtain⟨x,hx,hxl⟩:=hju (.inl h2);obtain⟨y,hy,hyl⟩:=hju2 h2;have hx':h.x=(x:Int):=hx;have hy':h.y=(y:Int):=hy;have z2:wx.cell? ⟨gx,2,none⟩=some (.int .i64 h.y):=BX.cell 2;rw[h2] at z0;rw[hx'] at z1;rw[hy'] at z2;have HC:=lh (HIH.out wx (s.1,s.2++[pc]) x hIx.out HAS.out hfs hxl);have hn':(QW hs).length=hs.length:=Qw hs;have HI1:=lh (VQ (G:=QW hs) f (s.1,s.2++[pc]) x (by rw[hn'];exact HAS.out));rw[hn'] at HI1;have HR:Hid (r=if(Q2 (QW hs) f (s.1,s.2++[pc]) x).2=true then Q2 (QW hs) f (Q2 (QW hs) f (s.1,s.2++[pc]) x).1 y else Q2 (QW hs) f (s.1,s.2++[pc]) x):=lh (by
       rw[HST.out,if_pos (show h.ins.op=2 from h2)];have e:h.ins.x.toNat=x:=by show h.x.toNat=x;omega
       have e2:h.ins.y.toNat=y:=by show h.y.toNat=y;omega
       rw[e,e2])
      obtain⟨r1,hr1⟩:∃r1,Hid (Q2 (QW hs) f (s.1,s.2++[pc]) x=r1):=⟨_,lh rfl⟩;rw[hr1.out] at HC HR HI1;obtain⟨s1,b1⟩:=r1;have hs1:(s.2++[pc]).length<=s1.2.length:=HI1.out.2;have hy9:=lh hy';clear HST hju hju2 hnx hx hx' hy hy' hn';by_cases hb:b1=true
      ·subst hb;have HR2:Hid (r=Q2 (QW hs) f s1 y):=lh (by rw[HR.out,if_pos rfl]);have HC2:=fun(w':World) (hI:LsI w' w0 ⟨base,gB,gl,ga,gb,gM⟩ (some ⟨pb,po,none⟩) gc hs.length H mark mp L s1)=>lh (HIH.out w' s1 y hI HI1.out.1 om hyl);clear HR HIH
       go_upto_region 15 with fail
       go_wp2_with fail
       refine HC.out.mono ?_;rintro e w7 ⟨rfl,h7,k7⟩;have BX7:=LsK.blk k7 BX hMx hlx de;have z27:w7.cell? ⟨gx,2,none⟩=some (.int .i64 y):=by rw[<-hy9.out];exact BX7.cell 2
       have ca7:w7.cell? ⟨ga,0,none⟩=some (.func (.func 160) #[] #[.pointer (some ⟨gB,0,none⟩),.pointer (some ⟨gl,0,none⟩),.pointer (some ⟨ga,0,none⟩)]):=h7.bA.cell 0;have HH7:=lh h7;have HK7:=lh k7;clear BX7 BX z0 z1 z2 ca h7 k7
       go_wp2_with fail
       refine(HC2 _ HH7.out).out.mono ?_;rintro e w9 ⟨rfl,h9,k9⟩;have h7:=HH7.out;have k7:=HK7.out
       go_wp2_with fail
       go_ret
       exact⟨by rw[HR2.out];rfl,by rw[HR2.out];exact h9,LsK.chain Kx (LsK.chain k7 k9)⟩
      ·have hb2:b1=false:=by simpa using hb
       subst hb2;have HR2:Hid (r=(s1,false)):=lh (by rw[HR.out,if_neg si]);clear HR HIH
       go_upto_region 15 with fail
       go_wp2_with (go_at_fn 160;refine HC.out.mono ?_;rintro e w7 ⟨rfl,h7,k7⟩)
       go_ret
       exact⟨by rw[HR2.out];rfl,by rw[HR2.out];exact h7,LsK.chain Kx k7⟩
     ·by_cases h3:h.op=3
      ·obtain⟨x,hx,hxl⟩:=hju (.inr h3);have hx':h.x=(x:Int):=hx;rw[h3] at z0;rw[hx'] at z1;have HC:=lh (HIH.out wx (s.1,s.2++[pc]) x hIx.out HAS.out hfs hxl);have HR:Hid (r=Q2 (QW hs) f (s.1,s.2++[pc]) x):=lh (by
        rw[HST.out,if_neg (show ¬h.ins.op=2 from h2),if_pos (show h.ins.op=3 from h3)];have e:h.ins.x.toNat=x:=by show h.x.toNat=x;omega
        rw[e])
       clear HST HIH hju hju2 hnx hx hx'
       go_upto_region 13 with fail
       exact aV
      ·have h4:h.op=4:=om;have hnl:=hnx (.inr h4);rw[h4] at z0;have HC:=lh (HIH.out wx (s.1,s.2++[pc]) (pc+1) hIx.out HAS.out hfs hnl);have HR:Hid (r=Q2 (QW hs) f (s.1,s.2++[pc]) (pc+1)):=lh (by
        rw[HST.out,if_neg (show ¬h.ins.op=2 from h2),if_neg (show ¬h.ins.op=3 from h3),if_pos (show h.ins.op=4 from h4)])
       have hw1:IntKind.i64.wrap ((pc:Int)+1)=((pc+1:Nat):Int):=wj;clear HST HIH hju hju2 hnx;exact aV
def TyI (w:World)(A:Option Addr):Prop:=∀b,A.map (·.block)=some b->∃cur,w.heap[b]? = some (.cells cur 3 (0,0))
theorem TyI.kp {w w':World}{A:Option Addr}{p:Nat->Prop}(h:TyI w A)(k:KpP p w w')(hp:∀b,p b->∀cur,w.heap[b]?≠some (.cells cur 3 (0,0))):TyI w' A:=fun b hb=>by
 obtain⟨cur,hh⟩:=h b hb;exact⟨cur,(k.block b (Array.getElem?_eq_some_iff.1 hh).1 (fun hq=>hp b hq cur hh)).trans hh⟩
theorem TyI.ext {w w':World}{A:Option Addr}(h:TyI w A)(x:Ext w w'):TyI w' A:=fun b hb=>by
 obtain⟨cur,hh⟩:=h b hb;exact⟨cur,(x.block b (Array.getElem?_eq_some_iff.1 hh).1).trans hh⟩
theorem IL.kpT {w w':World}{A:Option Addr}{c:Nat}{xs:List Int}{p:Nat->Prop}(h:IL w A c xs)(t:TyI w A)(k:KpP p w w')(hp:∀b,p b->∀cur,w.heap[b]?≠some (.cells cur 3 (0,0))):IL w' A c xs:=
 IL.kp h k (fun _ b hb hq=>by
  obtain⟨cur,hh⟩:=t b hb;exact hp b hq cur hh)
theorem GU {w:World}{base e s n c:Nat}{A:Option Addr}{xs:List Value}(h:QQ w base e s A n c xs)(he:e≠3):∀b,A.map (·.block)=some b->∀cur,w.heap[b]?≠some (.cells cur 3 (0,0)):=fun b hb cur hh=>by
 obtain⟨_,cur2,h2⟩:=QQ.blt h hb;rw[h2] at hh;injection hh with hh;injection hh with _ h3
 exact he h3
theorem yx {w:World}{g T:Nat}{cs:Array Value}(h:Blk w g T cs)(hT:T≠3):∀b,b=g->∀cur,w.heap[b]?≠some (.cells cur 3 (0,0)):=fun b hb cur hh=>by
 subst hb;unfold Blk at h;rw[h] at hh;injection hh with hh;injection hh with _ h3
 exact hT h3
def aX (gb gM:Nat)(gA:Option Addr)(gc n:Nat)(H:Value)(mark:Int)(mp L:Value)(l:List Nat)(w:World)(e:Ending)(w':World):Prop:=
 ∃(A:Option Addr) (c:Nat) (ms:List Int),e=.returned (.slice A l.length c)/\IL w' A c (Q3 l)/\Fr w A/\TyI w' A/\Blk w' gb 141 (Z0 gA n gc H (.slice (some ⟨gM,0,none⟩) n n) mark mp L)/\
  Blk w' gM 3 (Wy ms)/\ms.length=n/\(∀i,i<n->ms.getD i 0<=mark)/\KpP (fun b=>b=gb\/b=gM) w w'
theorem NV {G:List Ins}{N:Nat}{fs:List Nat}{k:Nat}{s:List Nat×List Nat}(hk:k<fs.length):JP G N (fs.drop k) s=if(Q2 G N s fs[k]).2=true then JP G N (fs.drop (k+1)) (Q2 G N s fs[k]).1 else(Q2 G N s fs[k]).1:=by
 rw[List.drop_eq_getElem_cons hk,JP]
theorem T6 (w0 w:World)(hx0:Ext w0 w)(gb gM:Nat)(hgM:w0.heap.size<=gM)(hgb:w0.heap.size<=gb)(gA:Option Addr)(gc:Nat)(hs:List Hin)(runes:Bool)(caps:Int)(hG:GOk runes caps (QW hs))(hP:PL w0 gA gc hs)(H:Value)(mark:Int)(hmk:0<=mark/\mark<=1000000000)(mp L:Value)(ms:List Int)
 (bb:Blk w gb 141 (Z0 gA hs.length gc H (.slice (some ⟨gM,0,none⟩) hs.length hs.length) mark mp L)) (bm:Blk w gM 3 (Wy ms)) (hml:ms.length=hs.length) (hms:∀i,i<hs.length->ms.getD i 0<=mark)
 (F:Option Addr) (fc:Nat) (fs:List Nat) (hF:∀w',KpP (fun b=>b=gb\/b=gM) w w'->IL w' F fc (Q3 fs)) (hfs:∀i∈fs,i<hs.length) :
 Calls Tryz.prog 121 #[.pointer (some ⟨gb,0,none⟩),.slice F fs.length fc] w (aX gb gM gA gc hs.length H (mark+1) mp L (QX (QW hs) fs) w):=by
 have hfl:=(hF w (KpP.refl _ _)).len;rw[JI] at hfl;have hgl:=hP.len;have hn8:=hG.len;rw[Qw] at hn8;have hbM:=Qq bb bm de;have q3:w.cell? ⟨gb,3,none⟩=some (.int .i64 mark):=bb.cell 3;have f3:=bb.frz 3;have hgbl:=bb.lt;have hgMl:=bm.lt;have hwm:IntKind.i64.wrap (mark+1)=mark+1:=wj;have BB:=Blk.new w 137 #[.pointer (some ⟨gb,0,none⟩)];have EB:=Ext.alloc w (.cells #[.pointer (some ⟨gb,0,none⟩)] 137);obtain⟨SG,hSG⟩:∃SG,Hid (QX (QW hs) fs=SG):=⟨_,lh rfl⟩;rw[hSG.out];go_enter Tryz.func121,Tryz.ntmps121
 go_upto_region 1 with fail
 obtain⟨gB,hgB⟩:∃gB,gB=w.heap.size:=⟨_,rfl⟩
 rw[<-hgB] at BB ⊢;have hBb:gB≠gb:=om;have HGB:=lh hgB;clear hgB;generalize w.alloc (.cells #[.pointer (some ⟨gb,0,none⟩)] 137)=wa at *;replace q3:=EB.cell q3;have b1:=bb.ext EB;replace f3:=b1.frz 3;have q0:wa.cell? ⟨gB,0,none⟩=some (.pointer (some ⟨gb,0,none⟩)):=BB.cell 0
 go_upto_region 2 with fail
 have BB2:=BB.far (p:=⟨gb,3,none⟩) hBb (.int .i64 (mark+1));have b2:=b1.set 3 (.int .i64 (mark+1));have bm2:=(bm.ext EB).far (p:=⟨gb,3,none⟩) hbM.symm (.int .i64 (mark+1));have K2:KpP (fun b=>b=gb\/b=gM) w (wa.setCell ⟨gb,3,none⟩ (.int .i64 (mark+1))):=KpP.set (x:=⟨gb,3,none⟩) (KpP.of_ext EB) (.inl (.inl rfl)) _;have X2:Ext w0 (wa.setCell ⟨gb,3,none⟩ (.int .i64 (mark+1))):=(hx0.trans EB).setNew (p:=⟨gb,3,none⟩) hgb _;generalize wa.setCell ⟨gb,3,none⟩ (.int .i64 (mark+1))=wb at *;have BL:=Blk.new wb 22 #[.slice none 0 0];have EL:=Ext.alloc wb (.cells #[.slice none 0 0] 22)
 go_upto_region 3 with fail
 obtain⟨gl,hgl2⟩:∃gl,gl=wb.heap.size:=⟨_,rfl⟩
 rw[<-hgl2] at BL ⊢;have hbase:gM<gl:=by have:=bm2.lt;omega
 have hlw:w.heap.size<=gl:=by have:=K2.size;omega
 have HGL:=lh hgl2;clear hgl2;generalize wb.alloc (.cells #[.slice none 0 0] 22)=wc at *;have BA:=Blk.new wc 221 #[.nilFunc];have EA:=Ext.alloc wc (.cells #[.nilFunc] 221)
 go_upto_region 4 with fail
 obtain⟨ga,hga⟩:∃ga,ga=wc.heap.size:=⟨_,rfl⟩
 rw[<-hga] at BA ⊢;have haw:w.heap.size<=ga:=by have:=K2.size;have:=EL.size;omega
 clear hga;generalize wc.alloc (.cells #[.nilFunc] 221)=wd at *;have za:wd.cell? ⟨ga,0,none⟩=some .nilFunc:=BA.cell 0;have fa:=BA.frz 0;have hst:(store ⟨ga,0,none⟩ (.func (.func 160) #[] #[.pointer (some ⟨gB,0,none⟩),.pointer (some ⟨gl,0,none⟩),.pointer (some ⟨ga,0,none⟩)])).run Tryz.prog wd=.ok () (wd.setCell ⟨ga,0,none⟩ (.func (.func 160) #[] #[.pointer (some ⟨gB,0,none⟩),.pointer (some ⟨gl,0,none⟩),.pointer (some ⟨ga,0,none⟩)])):=by
  rw[run_store Tryz.prog wd _ _ _ rfl,za];simp[fa]
 go_upto_region 5 with fail
 have HI0:Hid (LsI (wd.setCell ⟨ga,0,none⟩ (.func (.func 160) #[] #[.pointer (some ⟨gB,0,none⟩),.pointer (some ⟨gl,0,none⟩),.pointer (some ⟨ga,0,none⟩)])) w0 ⟨gl,gB,gl,ga,gb,gM⟩ gA gc hs.length H (mark+1) mp L ([],[])):=by
  have EE:=EL.trans EA;have d1:=Qq (BB2.ext EE) BA de;have d2:=Qq (BL.ext EA) BA de;have d3:=Qq (b2.ext EE) BA de;have d4:=Qq (bm2.ext EE) BA de;refine lh ⟨(X2.trans EE).setNew (p:=⟨ga,0,none⟩) (by have:=hx0.size;simp only;omega) _,(BB2.ext EE).far d1 _,?_,⟨none,0,(BL.ext EA).far d2 _,QQ.nil _ _ _ _⟩,?_,⟨ms,(bm2.ext EE).far d4 _,hml,fun i hi=>⟨⟨fun h=>?_,fun h=>by simp at h⟩,?_⟩⟩,hbase,hgM,Nat.le_refl _⟩
  ·have b:=BA.set 0 (.func (.func 160) #[] #[.pointer (some ⟨gB,0,none⟩),.pointer (some ⟨gl,0,none⟩),.pointer (some ⟨ga,0,none⟩)])
   simpa using b
  ·have b:=(b2.ext EE).far (p:=⟨ga,0,none⟩) d3 (.func (.func 160) #[] #[.pointer (some ⟨gB,0,none⟩),.pointer (some ⟨gl,0,none⟩),.pointer (some ⟨ga,0,none⟩)])
   simpa[Z0] using b
  ·have:=hms i hi;omega
  ·have:=hms i hi;omega
 have HK0:Hid (KpP (fun b=>b=gb\/b=gM) w (wd.setCell ⟨ga,0,none⟩ (.func (.func 160) #[] #[.pointer (some ⟨gB,0,none⟩),.pointer (some ⟨gl,0,none⟩),.pointer (some ⟨ga,0,none⟩)]))):=lh (KpP.set (x:=⟨ga,0,none⟩) (K2.trans (KpP.of_ext (EL.trans EA))) (.inr haw) _);generalize wd.setCell ⟨ga,0,none⟩ (.func (.func 160) #[] #[.pointer (some ⟨gB,0,none⟩),.pointer (some ⟨gl,0,none⟩),.pointer (some ⟨ga,0,none⟩)])=we at *;clear hst za fa BA EA BL EL BB2 b2 bm2 K2 X2 b1 f3 q3 q0 BB EB bb bm;obtain⟨N,hN⟩:∃N,N=(QW hs).length+1:=⟨_,rfl⟩;have hNn:N=hs.length+1:=by rw[hN,Qw]
 have HSP:=lh (jB (QW hs) fs)
 rw[<-hN] at HSP;clear hN;obtain⟨RES,hRES⟩:∃RES,Hid (JP (QW hs) N fs ([],[])=RES):=⟨_,lh rfl⟩;rw[hRES.out] at HSP;rw[hSG.out] at HSP;have HFIN:=fun(w':World) (s:List Nat×List Nat) (A:Option Addr) (c:Nat) (hI:LsI w' w0 ⟨gl,gB,gl,ga,gb,gM⟩ gA gc hs.length H (mark+1) mp L s) (hA:Vk hs.length s) (hr:RES=s) (hK:KpP (fun b=>b=gb\/b=gM) w w') (ol:QQ w' gl 3 1 A s.1.length c ((Q3 s.1).map (Value.int .i64)))=>
  lh (show aX gb gM gA gc hs.length H (mark+1) mp L SG w (.returned (.slice A s.1.length c)) w' by
   obtain⟨h1,h2,h3,_,h6,⟨ms',h7,h8,h8'⟩,h9,h10,h11⟩:=hI;have e:s.1=SG:=by rw[<-hr];exact HSP.out
   rw[e] at ol ⊢;refine⟨A,c,ms',rfl,?_,fun b hb=>Nat.le_trans hlw (QQ.row ol b hb),fun b hb=>(QQ.blt ol hb).2,h6,h7,h8,fun i hi=>(h8' i hi).2,hK⟩;have hO:WO w' gl 3 A c (Q3 SG):=by unfold WO;rw[JI];exact ol
   refine IL.of_own hO (fun x hx=>?_);obtain⟨q,hq,rfl⟩:=List.mem_map.1 hx;have:=hA.lt q (by rw[e];exact hq);unfold I64;omega)
 have HFS:=lh hfs;have HF:=lh hF;have eg:=PH;have HADD:=fun(w':World) (s:List Nat×List Nat) (pc:Nat) (hI:LsI w' w0 ⟨gl,gB,gl,ga,gb,gM⟩ gA gc hs.length H (mark+1) mp L s) (hA:Vk hs.length s) (hp:pc<hs.length)=>lh (T4 w0 gl gB gl ga gb gM gA gc hs runes caps hG hP H (mark+1) mp L N w' s pc hI hA om hp);have HINV:=fun(s:List Nat×List Nat) (pc:Nat) (hA:Vk hs.length s)=>lh (show Vk hs.length (Q2 (QW hs) N s pc).1 by
  have h:=(VQ (G:=QW hs) N s pc (by rw[Qw];exact hA)).1;rw[Qw] at h;exact h)
 clear hG hP hfs hF HSP
 go_upto_region 6 with fail
 go_loopw [19] (fun v wr=>∃(k:Nat) (s:List Nat×List Nat),v=.int .i64 k/\k<=fs.length/\Hid (LsI wr w0 ⟨gl,gB,gl,ga,gb,gM⟩ gA gc hs.length H (mark+1) mp L s)/\Hid (Vk hs.length s)/\Hid (JP (QW hs) N (fs.drop k) s=RES)/\Hid (KpP (fun b=>b=gb\/b=gM) w wr)) (fun v _=>fs.length-(intOf v).toNat)
 case atStart=>exact⟨0,([],[]),rfl,om,HI0,lh ⟨Zy.nil _,Nat.le_refl _,by simp⟩,hRES,HK0⟩
 case round=>
  obtain⟨k,s,rfl,hk,HI,HA,HL,HK⟩:=hrel;obtain⟨LA,lc,bl,ol⟩:=HI.out.bl;have HOL:=lh ol;have HBL:=lh bl;clear ol bl;by_cases hlt:k<fs.length
  ·have hkI:(k:Int)<fs.length:=om;have hkn:k<(Q3 fs).length:=by rw[JI];exact hlt
   obtain⟨fb,fo,hFA,cf⟩:=(HF.out wr HK.out).get hkn;have hFA':=hFA;subst hFA';have hnv:(Q3 fs)[k]=(fs[k]:Int):=by simp[Q3]
   rw[hnv] at cf;have hx:=HFS.out _ (List.getElem_mem hlt);have hld:=lh (NV (G:=QW hs) (N:=N) (s:=s) hlt);generalize fs[k]=x at *;clear hnv hkn;have HC:=HADD wr s x HI.out HA.out hx;have HV:=HINV s x HA.out;have HRS:=HL.out;rw[hld.out] at HRS;obtain⟨r,hr⟩:∃r,Hid (Q2 (QW hs) N s x=r):=⟨_,lh rfl⟩;rw[hr.out] at HC HV HRS;obtain⟨s1,b1⟩:=r;have ca:wr.cell? ⟨ga,0,none⟩=some (.func (.func 160) #[] #[.pointer (some ⟨gB,0,none⟩),.pointer (some ⟨gl,0,none⟩),.pointer (some ⟨ga,0,none⟩)]):=HI.out.bA.cell 0;have HKC:=fun(w7:World) (k7:KpP (LsK ⟨gl,gB,gl,ga,gb,gM⟩ wr) wr w7)=>lh (KpP.chain HK.out k7 (fun i hi=>by
    rcases hi with hi|⟨hi,_⟩
    ·exact .inl (.inr hi)
    ·right
     simp only at hi
     omega))
   clear hld HL hr;by_cases hb:b1=true
   ·subst hb;have HR2:=lh (show JP (QW hs) N (fs.drop (k+1)) s1=RES by rw[<-HRS];rfl);clear HRS
    go_wp2_with (go_at_fn 160;refine HC.out.mono ?_;rintro e w7 ⟨rfl,h7,k7⟩)
    go_roundw
    case rel=>exact⟨k+1,s1,by go_num,om,lh h7,HV,HR2,HKC w7 k7⟩
    case measure=>simp[intOf];omega
   ·have hb2:b1=false:=by simpa using hb
    subst hb2;have HR2:=lh (show RES=s1 by rw[<-HRS];rfl);clear HRS
    go_upto_region 8 with fail
    go_upto_region 9 with fail
    refine HC.out.mono ?_;rintro e w7 ⟨rfl,h7,k7⟩;obtain⟨LA7,lc7,bl7,ol7⟩:=h7.bl;have cl7:w7.cell? ⟨gl,0,none⟩=some (.slice LA7 s1.1.length lc7):=bl7.cell 0;have HE:=HFIN w7 s1 LA7 lc7 h7 HV.out HR2.out (HKC w7 k7).out ol7;clear bl7 ol7 h7 k7 HC
    go_wp2_with fail
    go_ret
    exact HE.out
  ·have hkI:¬(k:Int)<fs.length:=om;obtain rfl:k=fs.length:=om;have HR2:Hid (RES=s):=lh (by
    have h9:=HL.out;rw[List.drop_length,JP] at h9;exact h9.symm)
   have cl:wr.cell? ⟨gl,0,none⟩=some (.slice LA s.1.length lc):=HBL.out.cell 0;have HE:=HFIN wr s LA lc HI.out HA.out HR2.out HK.out HOL.out;clear HL HADD HINV HFIN
   go_wp2_with fail
   go_ret
   exact HE.out
end
section
open Go.RowKit
open Go.ChangeMaps (setBlock)
attribute [local go_sem ↓] Go.wp_at_zero Go.wp_at_succ
theorem Kp.p2 {L:List Nat}{a b:World}(h:Kp L a b):KpP (·∈L) a b:=⟨h.os,h.tape,h.output,h.size,h.block⟩
theorem T7 {w:World}{base c:Nat}{A:Option Addr}{bs:List Int}(h:QQ w base 5 1 A bs.length c (bs.map (Value.int .u8)))(hn:bs≠[]) :
 (convert 271 9 (.slice A bs.length c)).run Tryz.prog w=.ok (.string (strOfNums bs)) w:=by
 have hu:Tryz.prog.underlying 5=some (.int .u8):=by kernel_rfl
 have hs:Tryz.prog.underlying 9=some .string:=by kernel_rfl
 obtain⟨b,o,rfl,hc⟩:=QQ.cells h (by simpa using hn);have hl:(loadCells ⟨b,o,none⟩ bs.length).run Tryz.prog w=.ok (bs.map (Value.int .u8)).toArray w:=by
  have h2:=run_loadCells_list (P:=Tryz.prog) w ⟨b,o,none⟩ (bs.map (Value.int .u8)) (fun j v hj=>by
   obtain⟨hj1,hj2⟩:=List.getElem?_eq_some_iff.1 hj;rw[Addr.add_lit,hc j hj1,<-hj2])
  rw[List.length_map] at h2;exact h2
 rw[run_convert_bytes_string w _ _ _ (some ⟨b,o,none⟩) _ c Tryz.underlying271 hu hs,run_bytesToString w _ _ c bs hl,foldl_push_bytes];simp[strOfNums,ByteArray.empty,ByteArray.emptyWithCapacity]
 rfl
theorem kJ {w:World}{base c:Nat}{A:Option Addr}{bs:List Int}(h:QQ w base 5 1 A bs.length c (bs.map (Value.int .u8)))(hn:bs≠[]){o:Oper}{ρ:Operand->Value}(x:Operand)(ho:o.op=.convert 271 9 x)(hx:ρ x=.slice A bs.length c)
 {S:ByteArray} (hS:S=strOfNums bs):(execOp ρ o).run Tryz.prog w=.ok (.value (.string S)) w:=by
 subst hS;unfold execOp;simp only[ho,hx,Sem.run_bind,T7 h hn,Result.andThen_ok,Sem.run_pure]
def kmap (L:List (List Nat)):List (ByteArray×Int):=L.zipIdx.map (fun p=>(KT p.1,(p.2:Int)))
theorem cP {L:List (List Nat)}(hL:∀l∈L,∀i∈l,i<65536){l:List Nat}(hl:∀i∈l,i<65536):at? (kmap L) (KT l)=if l∈L then some (L.idxOf l:Int) else none:=by
 have h:=OJ hL hl;unfold at? kmap;have e:(L.zipIdx.map (fun p=>(KT p.1,(p.2:Int)))).find? (fun p=>@BEq.beq ByteArray instBEqOfDecidableEq p.1 (KT l))=(L.zipIdx.map (fun p=>(KT p.1,(p.2:Int)))).find? (fun p=>decide (p.1=KT l)):=rfl;rw[e,h]
 split<;>rfl
theorem PI (L:List (List Nat))(l:List Nat):kmap (L++[l])=kmap L++[(KT l,(L.length:Int))]:=by
 unfold kmap;rw[List.zipIdx_append,List.map_append]
 simp
theorem T8 {L:List (List Nat)}{l:List Nat}(h:at? (kmap L) (KT l)=none)(n:Int)(hn:n=L.length):zN (kmap L) (KT l) n=kmap (L++[l]):=by
 subst hn;rw[PI];unfold zN;have:(kmap L).any (fun p=>@BEq.beq ByteArray instBEqOfDecidableEq p.1 (KT l))=false:=by
  rw[List.any_eq_false];intro p hp hq;unfold at? at h;rw[Option.map_eq_none_iff,List.find?_eq_none] at h;exact h p hp hq
 rw[this]
 rfl
structure NmI (wr:World)(base gb gm gM:Nat)(LA:Option Addr)(Lc:Nat)(sts:List Hl):Prop where
 map:WX wr gm Value.string (Value.int .i32) (kmap (QV sts))
 own:QQ wr base 22 1 LA sts.length Lc (Zz sts)
 il:∀z∈sts,IL wr z.A z.c (QJ z.l)
 ty:∀z∈sts,TyI wr z.A
 nM:∀z∈sts,z.A.map (·.block)≠some gM
 lt:∀z∈sts,∀i∈z.l,i<65536
theorem NmI.ext {wr w':World}{base gb gm gM:Nat}{LA:Option Addr}{Lc:Nat}{sts:List Hl}(h:NmI wr base gb gm gM LA Lc sts)(x:Ext wr w'):NmI w' base gb gm gM LA Lc sts:=
 ⟨h.map.ext x,QQ.ext h.own x,fun z hz=>(h.il z hz).ext x,fun z hz=>(h.ty z hz).ext x,h.nM,h.lt⟩
theorem NmI.lt2 {wr:World}{base gb gm gM:Nat}{LA:Option Addr}{Lc:Nat}{sts:List Hl}(h:NmI wr base gb gm gM LA Lc sts):∀l∈QV sts,∀i∈l,i<65536:=fun l hl=>by
 obtain⟨z,hz,rfl⟩:=List.mem_map.1 hl;exact h.lt z hz
theorem lZ (n:Nat)(h:n<=500000)(W:World):(Instr.makeSlice 271 (.int .i64 0) (.int .i64 (2*(n:Int)))).run Tryz.prog W=.ok (.slice (some ⟨W.heap.size,0,none⟩) 0 (2*n)) (W.alloc (.cells (Array.replicate (2*n) (.int .u8 0)) 5)):=by
 have hi:(Tryz.prog.info? 5).map (fun i=>(i.zero,i.size,i.bytes))=some (some (.int .u8 0),1,1):=by kernel_rfl
 obtain⟨i0,hi0,hz0,hz1,hz2⟩:=info_parts hi;have e:(2*(n:Int))=((2*n:Nat):Int):=om;rw[e];have:=run_make (P:=Tryz.prog) W 271 5 i0 (.int .u8 0) Tryz.underlying271 hi0 hz0 .i64 .i64 0 ((2*n:Nat):Int) om om (by rw[hz2];omega) om;rw[this,hz1];simp only[Int.toNat_natCast,Value.cells];rw[JJ]
 simp
theorem PM {l:List Nat}{k:Nat}(hk:k<l.length):KZ (l.take (k+1))=KZ (l.take k)++[((l[k] / 256 % 256:Nat):Int),((l[k] % 256:Nat):Int)]:=by
 unfold KZ;rw[List.take_add_one,List.getElem?_eq_getElem hk,List.flatMap_append]
 simp
def gw (base gb gm gM:Nat)(gA:Option Addr)(gn gc:Nat)(H M:Value)(mark:Int)(LA:Option Addr)(sts:List Hl)(l:List Nat)(w:World)(e:Ending)(w':World):Prop:=
 ∃(LA':Option Addr) (Lc':Nat) (sts':List Hl),e=.returned (.int .i32 (idx (QV sts') l))/\QV sts'=grow (QV sts) l/\Blk w' gb 141 (Z0 gA gn gc H M mark (.map (some gm)) (.slice LA' sts'.length Lc'))/\
  NmI w' base gb gm gM LA' Lc' sts'/\KpP (fun b=>b=gb\/b=gm\/LA.map (·.block)=some b) w w'
theorem PN:(Tryz.prog.info? 22).map (fun i=>(i.zero,i.size,i.bytes))=some (some (.slice none 0 0),1,24):=by kernel_rfl
theorem lO:∀W:World,(zeroValue 21).run Tryz.prog W=.ok (.int .i32 0) W:=fun W=>by
 obtain⟨i0,h0,h1,h2,h3⟩:=info_parts U1;simp[zeroValue,typeInfo,h0,h1]
theorem NmI.put {w5 w8:World}{base gb gm gM:Nat}{LA A8 A:Option Addr}{Lc c8 c n:Nat}{sts:List Hl}{l:List Nat}{v:Value}{cs:Array Value}
 (hmap:WX w5 gm Value.string (Value.int .i32) (kmap (QV sts++[l]))) (own:QQ w5 base 22 1 LA sts.length Lc (Zz sts)) (il:∀z∈sts++[⟨A,c,l⟩],IL w5 z.A z.c (QJ z.l)) (ty:∀z∈sts++[⟨A,c,l⟩],TyI w5 z.A) (nM:∀z∈sts++[⟨A,c,l⟩],z.A.map (·.block)≠some gM) (lt:∀z∈sts++[⟨A,c,l⟩],∀i∈z.l,i<65536)
 (bb:Blk w5 gb 141 cs) (hg:(w5.alloc (.cells #[.slice A n c] 22)).grownBy w8 (LA.map (·.block))) (hn:n=l.length)
 (ho:QQ w8 base 22 1 A8 (sts.length+1) c8 (Zz sts++[.slice A n c])) :
 NmI (w8.setCell ⟨gb,5,none⟩ v) base gb gm gM A8 c8 (sts++[⟨A,c,l⟩]):=by
 subst hn;have X:=Ext.alloc w5 (.cells #[.slice A l.length c] 22);have k:=KpP.of_grown hg;have ox:=QQ.ext own X;have bb8:=k.blk (bb.ext X) (QK ox (bb.ext X) de);have m8:WX w8 gm Value.string (Value.int .i32) (kmap (QV sts++[l])):=(hmap.ext X).kp k (fun e=>by
  obtain⟨_,cur,hh⟩:=QQ.blt ox e;obtain⟨es,cl,h2,_⟩:=hmap.ext X;rw[hh] at h2;cases h2)
 have hmb:gm≠gb:=m8.ne bb8;have e1:(sts++[(⟨A,c,l⟩:Hl)]).length=sts.length+1:=by simp
 have e2:Zz (sts++[(⟨A,c,l⟩:Hl)])=Zz sts++[.slice A l.length c]:=by simp[Zz,QJ]
 have e3:QV (sts++[(⟨A,c,l⟩:Hl)])=QV sts++[l]:=by simp[QV]
 have kk:KpP (·=gb) w8 (w8.setCell ⟨gb,5,none⟩ v):=KpP.set (p:=(·=gb)) (x:=⟨gb,5,none⟩) (KpP.refl _ _) (.inl rfl) v;have hp1:=GU ox de;have hp2:=yx bb8 de;refine⟨?_,?_,fun z hz=>?_,fun z hz=>?_,nM,lt⟩
 ·rw[e3];exact m8.kp kk hmb
 ·rw[e1,e2];exact QQ.far ho (QK ho bb8 de) _
 ·have t8:=((ty z hz).ext X).kp k hp1;exact(((il z hz).ext X).kpT ((ty z hz).ext X) k hp1).kpT t8 kk hp2
 ·exact(((ty z hz).ext X).kp k hp1).kp kk hp2
theorem NY (w:World)(base gb gm gM:Nat)(hbase:base<=w.heap.size)(gA:Option Addr)(gn gc:Nat)(H M:Value)(mark:Int)(LA:Option Addr)(Lc:Nat)(sts:List Hl)(hsn:sts.length<=100000)
 (bb:Blk w gb 141 (Z0 gA gn gc H M mark (.map (some gm)) (.slice LA sts.length Lc))) (hN:NmI w base gb gm gM LA Lc sts)
 (A:Option Addr) (c:Nat) (l:List Nat) (hl:IL w A c (Q3 l)) (hll:l.length<=10000) (hlt:∀i∈l,i<65536) (hty:TyI w A) (hnM:A.map (·.block)≠some gM) :
 Calls Tryz.prog 120 #[.pointer (some ⟨gb,0,none⟩),.slice A l.length c] w (gw base gb gm gM gA gn gc H M mark LA sts l w):=by
 have hcap:=hl.len;rw[JI] at hcap;have hiU:(Tryz.prog.info? 5).map (fun i=>(i.zero,i.size,i.bytes))=some (some (.int .u8 0),1,1):=by kernel_rfl
 obtain⟨iU,jU0,jU1,jU2,jU3⟩:=info_parts hiU;clear hiU;have HLI:=lh hl;have hmk:=lZ l.length om;have hmul:IntKind.i64.wrap (2*(l.length:Int))=2*(l.length:Int):=wj;clear hl;by_cases h0:l.length=0
 ·obtain rfl:l=[]:=List.length_eq_zero_iff.1 h0;have HI:Hid (idx (QV sts) [] = -1):=lh (by simp[idx]);have HGr:Hid (QV sts=grow (QV sts) []):=lh (by simp[grow]);clear h0 hmk hmul;go_enter Tryz.func120,Tryz.ntmps120
  go_wp2_with fail
  go_ret
  exact⟨LA,Lc,sts,by rw[HI.out];rfl,HGr.out,bb,hN,KpP.refl _ _⟩
 ·have h0b:((l.length:Int) == 0)=false:=by rw[beq_eq_false_iff_ne];omega
  go_enter Tryz.func120,Tryz.ntmps120
  go_upto_region 4 with fail
  have BK:=Blk.new w 5 (Array.replicate (2*l.length) (.int .u8 0));have EK:=Ext.alloc w (.cells (Array.replicate (2*l.length) (.int .u8 0)) 5);generalize w.alloc (.cells (Array.replicate (2*l.length) (.int .u8 0)) 5)=w1 at *;obtain⟨gK,hgK⟩:∃gK,gK=w.heap.size:=⟨_,rfl⟩
  rw[<-hgK] at BK ⊢;have OK0:QQ w1 gK 5 1 (some ⟨gK,0,none⟩) 0 (2*l.length) []:=by
   have:=QQ.of_blk (base:=gK) (size:=1) (n:=0) (c:=2*l.length) BK (Nat.le_refl _) si (Nat.zero_le _) um
   simpa using this
  have HGK:=lh hgK;clear hgK hmk
  go_upto_region 5 with fail
  go_loopw [5,19] (fun v5 v19 wr=>∃(k:Nat) (B:Option Addr) (d:Nat),v19=.int .i64 k/\k<=l.length/\v5=.slice B (2*k) d/\Hid (QQ wr gK 5 1 B (2*k) d ((KZ (l.take k)).map (Value.int .u8)))/\Ext w wr) (fun _ v _=>l.length-(intOf v).toNat)
  case atStart=>exact⟨0,some ⟨gK,0,none⟩,2*l.length,rfl,om,rfl,lh OK0,EK⟩
  case round=>
   obtain⟨k,B,d,rfl,hk,rfl,HB,x1⟩:=hrel;by_cases hlt2:k<l.length
   ·have hkI:(k:Int)<l.length:=om;obtain⟨fb,fo,hA,cf⟩:=(HLI.out.ext x1).get (k:=k) (by rw[JI];exact hlt2);have hA':=hA;subst hA';have hnv:(Q3 l)[k]'(by rw[JI];exact hlt2)=(l[k]:Int):=by simp[Q3]
    rw[hnv] at cf;have HS:=lh (PM hlt2);have hx:=hlt _ (List.getElem_mem hlt2);generalize l[k]=x at *;clear hnv;have HS2:=lh (show KZ (l.take (k+1))=KZ (l.take k)++[(x:Int) / 256,(x:Int) % 256] by
     rw[HS.out]
     congr 1
     have e1:((x / 256 % 256:Nat):Int)=(x:Int) / 256:=om;have e2:((x % 256:Nat):Int)=(x:Int) % 256:=om;rw[e1,e2])
    have hgw:gK<=wr.heap.size:=by rw[HGK.out];exact x1.size
    clear HS
    go_wp2_with ((at_builtin;refine Qv _ rfl _ _ _ rfl gK 5 iU (.int .u8 0) 1 1 Tryz.underlying271 jU0 jU1 jU2 jU3 rfl om B (2*k) d ((KZ (l.take k)).map (Value.int .u8)) rfl (QQ.ext HB.out (Ext.alloc _ _)) _ 2 2 [.int .u8 ((x:Int) / 256),.int .u8 ((x:Int) % 256)] rfl rfl (QC (Blk.new _ _ _)) (by intro u hu;simp only[List.mem_cons,List.not_mem_nil,or_false] at hu;rcases hu with rfl|rfl<;>rfl) um om (Nat.le_trans hgw (Ext.alloc _ _).size) ?_;intro B8 d8 w8 ho8 hg8 hat8))
    have e8:Ext w w8:=(x1.trans (Ext.alloc _ _)).grown hg8 (fun i hi=>by rw[<-HGK.out];exact QQ.row HB.out _ hi);have HB8:=lh (show QQ w8 gK 5 1 B8 (2*(k+1)) d8 ((KZ (l.take (k+1))).map (Value.int .u8)) by
     rw[HS2.out,List.map_append];exact ho8)
    go_roundw
    case rel=>exact⟨k+1,B8,d8,by go_num,om,rfl,HB8,e8⟩
    case measure=>simp[intOf];omega
   ·have hkI:¬(k:Int)<l.length:=om;obtain rfl:k=l.length:=om;rw[List.take_length] at HB;have hne:KZ l≠[]:=fun e=>by
     have:=xP l;rw[e] at this;simp only[List.length_nil] at this;omega
    have HOK:=fun(w':World) (x:Ext wr w')=>lh (show QQ w' gK 5 1 B (KZ l).length d ((KZ l).map (Value.int .u8)) by rw[xP];exact QQ.ext HB.out x);have HKL:=lh (xP l);have HKS:Hid (KT l=strOfNums (KZ l)):=lh rfl;have HNr:=lh (hN.ext x1);have HBr:=lh (bb.ext x1);have q4:wr.cell? ⟨gb,4,none⟩=some (.map (some gm)):=HBr.out.cell 4;have hat:=cP hN.lt2 hlt;have HLK:=fun(w':World) (x:Ext wr w')=>lh ((HNr.out.map.ext x).look (F4 Tryz.underlying9) Tryz.underlying138 (lO w') (KT l)).2;rw[hat] at HLK;have HAT:=lh hat;obtain⟨S,hS⟩:∃S,Hid (KT l=S):=⟨_,lh rfl⟩;rw[hS.out] at HLK HKS;clear hat;by_cases hm:l∈QV sts
    ·rw[if_pos hm] at HLK;simp only[Option.map_some,Option.getD_some,Option.isSome_some] at HLK;have HI:Hid (idx (QV sts) l=((QV sts).idxOf l:Nat)):=lh (by unfold idx;rw[if_neg (by rintro rfl;simp at h0)]);have HGr:Hid (QV sts=grow (QV sts) l):=lh (by unfold grow;rw[if_pos (.inr hm)]);have jq:=kc0 q4;have jl:=fun(w':World) (h:Kp [] wr w')=>(HLK w' h.nil).out;clear HAT hm
     go_upto_region 9 with fail
     refine Xr.start [] kr ?_;refine Xtk 0 ?_
     iterate 4(refine Xtn ?_)
     refine Xr.take 5 (some 38) (v:=.string S) rfl rfl dK (by rfl) (fun w' hk=>kJ (HOK w' hk.nil).out hne _ rfl (by rw[HKL.out];go_simp) HKS.out) ?_;refine ptm ?_;refine Xtk 6 ?_
     iterate 5(refine Xtn ?_)
     refine Xdn fun w9 hE9 hK9=>?_;clear jq jl HLK
     go_wp2_with fail
     go_ret
     exact⟨LA,Lc,sts,by rw[HI.out];rfl,HGr.out,HBr.out.ext hE9,HNr.out.ext hE9,KpP.of_ext (x1.trans hE9)⟩
    ·rw[if_neg hm] at HLK;have hat0:=HAT.out;rw[if_neg hm] at hat0;simp only[Option.map_none,Option.getD_none,Option.isSome_none] at HLK;have hln:l≠[]:=by rintro rfl;simp at h0
     have HE3:Hid (QV (sts++[(⟨A,c,l⟩:Hl)])=QV sts++[l]):=lh (by simp[QV]);have HGr:Hid (QV (sts++[(⟨A,c,l⟩:Hl)])=grow (QV sts) l):=lh (by
      rw[HE3.out];unfold grow;rw[if_neg (by rintro(h|h);exact hln h;exact hm h)])
     have HI:Hid (idx (QV (sts++[(⟨A,c,l⟩:Hl)])) l=(sts.length:Nat)):=lh (by
      rw[HE3.out];unfold idx;rw[if_neg hln,List.idxOf_append,if_neg hm];simp[QV])
     have HKP:=lh (T8 hat0 (sts.length:Int) (by rw[QF]));rw[hS.out] at HKP;have jq:=kc0 q4;have jl:=fun(w':World) (h:Kp [] wr w')=>(HLK w' h.nil).out;have hsw:IntKind.i32.wrap (sts.length:Int)=sts.length:=by rw[IntKind.wrap_i32];omega
     clear HAT hm hat0 HE3 hln
     go_upto_region 9 with fail
     refine Xr.start [] kr ?_;refine Xtk 0 ?_
     iterate 4(refine Xtn ?_)
     refine Xr.take 5 (some 38) (v:=.string S) rfl rfl dK (by rfl) (fun w' hk=>kJ (HOK w' hk.nil).out hne _ rfl (by rw[HKL.out];go_simp) HKS.out) ?_;refine ptm ?_;refine Xtk 6 ?_
     iterate 5(refine Xtn ?_)
     refine Xdn fun w9 hE9 hK9=>?_;clear jq jl HLK;have HB9:=lh (HBr.out.ext hE9);have HN9:=lh (HNr.out.ext hE9);have X9:=x1.trans hE9;have HOK9:=fun(w':World) (x:Ext w9 w')=>HOK w' (hE9.trans x);have hgmb:gm≠gb:=HN9.out.map.ne HB9.out;have q5:w9.cell? ⟨gb,5,none⟩=some (.slice LA sts.length Lc):=HB9.out.cell 5;have q49:w9.cell? ⟨gb,4,none⟩=some (.map (some gm)):=HB9.out.cell 4;have hLc:=QQ.caps HN9.out.own;clear HOK HNr HBr q4 hE9 hK9;have jq:=fun(w':World) (h:Kp [gm] w9 w')=>h.cell q49 (by simpa using hgmb.symm)
     go_upto_region 12 with fail
     have hBg:∀b,B.map (·.block)=some b->b≠gm:=fun b hb e=>by
      subst e;obtain⟨_,cur,hh⟩:=QQ.blt (HOK9 w9 (Ext.rfl' _)).out hb;obtain⟨es,cl,h2,_⟩:=HN9.out.map;rw[hh] at h2;cases h2
     refine Xr.start [gm] kr ?_;refine Xtk 0 ?_
     iterate 4(refine Xtn ?_)
     refine Xr.take 5 (some 55) (v:=.string S) rfl rfl dK (by rfl) (fun w' hk=>kJ (QQ.kp (HOK9 w9 (Ext.rfl' _)).out hk.p2 (fun b hb he=>hBg b hb (by simpa using he))) hne _ rfl (by rw[HKL.out];go_simp) HKS.out) ?_;refine ptm ?_;refine Xtk 6 ?_;refine Xsp 7 fun w4 hE4 hK4 K hKK=>?_;refine Exists.elim ((HN9.out.map.ext hE4).put (F4 Tryz.underlying9) Tryz.underlying138 S (sts.length:Int)) (fun o ho=>?_);have ho1:=ho.1;go_simp;have kS:=xQ w4 gm o;refine hKK _ _ (GL kS List.mem_cons_self) (hK4.thenP kS List.mem_cons_self) ?_;clear hKK ho1;have hM5:=ho.2;generalize setBlock w4 gm o=w5 at *;refine ptm ?_;refine Xdn fun w6 hE6 hK6=>?_;rw[HKP.out] at hM5;have kA:KpP (·=gm) w9 w6:=(KpP.trans (KpP.of_ext hE4) kS).trans (KpP.of_ext hE6);have hM6:=lh (hM5.ext hE6);clear ho hM5 kS jq hE4 hK4 hE6 q49;have HB6:=lh (kA.blkN HB9.out hgmb.symm);have hgm1:∀b,b=gm->∀cur,w9.heap[b]?≠some (.cells cur 3 (0,0)):=fun b hb cur hh=>by
      subst hb;obtain⟨es,cl,h2,_⟩:=HN9.out.map;rw[hh] at h2;cases h2
     have HO6:=lh (QQ.kp HN9.out.own kA (fun b hb e=>by
      have e2:b=gm:=e;subst e2;obtain⟨_,cur,hh⟩:=QQ.blt HN9.out.own hb;obtain⟨es,cl,h2,_⟩:=HN9.out.map;rw[hh] at h2;cases h2))
     have tyA:=hty.ext X9;have HIL6:Hid (∀z∈sts++[(⟨A,c,l⟩:Hl)],IL w6 z.A z.c (QJ z.l)/\TyI w6 z.A):=lh (fun z hz=>by
      rcases List.mem_append.1 hz with hz|hz
      ·exact⟨(HN9.out.il z hz).kpT (HN9.out.ty z hz) kA hgm1,(HN9.out.ty z hz).kp kA hgm1⟩
      ·have e:z=⟨A,c,l⟩:=by simpa using hz
       subst e;exact⟨(HLI.out.ext X9).kpT tyA kA hgm1,tyA.kp kA hgm1⟩)
     have HnM:Hid (∀z∈sts++[(⟨A,c,l⟩:Hl)],z.A.map (·.block)≠some gM):=lh (fun z hz=>by
      rcases List.mem_append.1 hz with hz|hz
      ·exact HN9.out.nM z hz
      ·have e:z=⟨A,c,l⟩:=by simpa using hz
       subst e;exact hnM)
     have Hlt:Hid (∀z∈sts++[(⟨A,c,l⟩:Hl)],∀i∈z.l,i<65536):=lh (fun z hz=>by
      rcases List.mem_append.1 hz with hz|hz
      ·exact HN9.out.lt z hz
      ·have e:z=⟨A,c,l⟩:=by simpa using hz
       subst e;exact hlt)
     have HK6:Hid (KpP (fun b=>b=gb\/b=gm\/LA.map (·.block)=some b) w w6):=lh ((KpP.of_ext X9).trans (KpP.mono kA (fun i hi=>.inr (.inl hi))));have hb6:base<=w6.heap.size:=by have:=X9.size;have:=kA.size;omega
     have c6:w6.cell? ⟨gb,5,none⟩=some (.slice LA sts.length Lc):=HB6.out.cell 5;obtain⟨iS,jS0,jS1,jS2,jS3⟩:=info_parts PN;have EP:=Ext.alloc w6 (.cells #[.slice A l.length c] 22);have HBL:=fun(w8:World) (hg:(w6.alloc (.cells #[.slice A l.length c] 22)).grownBy w8 (LA.map (·.block)))=>(KpP.of_grown hg).blk (HB6.out.ext EP) (QK (QQ.ext HO6.out EP) (HB6.out.ext EP) de);clear HN9 HB9 kA hgm1 hBg HOK9 tyA HB q5 hK6
     go_wp2_with ((at_builtin;refine Qv _ rfl _ _ _ rfl base 22 iS (.slice none 0 0) 1 24 Tryz.underlying50 jS0 jS1 jS2 jS3 rfl om LA sts.length Lc (Zz sts) rfl (QQ.ext HO6.out (Ext.alloc _ _)) _ 1 1 [.slice A l.length c] rfl rfl (QC (Blk.new _ _ _)) (by intro u hu;simp only[List.mem_cons,List.not_mem_nil,or_false] at hu;rcases hu with rfl;rfl) um om (Nat.le_trans hb6 (Ext.alloc _ _).size) ?_;intro A8 c8 w8 ho8 hg8 hat8;have cl8:=(HBL w8 hg8).cell 5;have fl8:=(HBL w8 hg8).frz 5))
     have hb8:=(HBL w8 hg8).set 5 (.slice A8 (sts.length+1) c8);have hF:=NmI.put (v:=.slice A8 (sts.length+1) c8) hM6.out HO6.out (fun z hz=>(HIL6.out z hz).1) (fun z hz=>(HIL6.out z hz).2) HnM.out Hlt.out HB6.out hg8 rfl ho8;have hk8:KpP (fun b=>b=gb\/b=gm\/LA.map (·.block)=some b) w (w8.setCell ⟨gb,5,none⟩ (.slice A8 (sts.length+1) c8)):=
      KpP.set (x:=⟨gb,5,none⟩) ((HK6.out.trans (KpP.of_ext EP)).trans (KpP.mono (KpP.of_grown hg8) (fun i hi=>.inr (.inr hi)))) (.inl (.inl rfl)) _
     have HL1:=lh (show(sts++[(⟨A,c,l⟩:Hl)]).length=sts.length+1 by simp);have HF:=lh hF;have HB8:=lh hb8;have HK8:=lh hk8;clear hF hb8 hk8 cl8 fl8 ho8 hg8 hat8 HBL
     go_wp2_with fail
     go_ret
     exact⟨A8,c8,sts++[⟨A,c,l⟩],by rw[HI.out];rfl,HGr.out,by rw[HL1.out];simpa[Z0] using HB8.out,HF.out,HK8.out⟩
end
section
open Go.RowKit
attribute [local go_sem ↓] Go.wp_at_zero Go.wp_at_succ
structure BP where
 base:Nat
 gb:Nat
 gm:Nat
 gM:Nat
 gH:Nat
structure BS (wr w0:World)(p:BP)(gA:Option Addr)(gc:Nat)(hs:List Hin)(cs:List Int)(rows:List Kb)(mark:Int)(LA:Option Addr)(Lc:Nat)(sts:List Hl):Prop where
 ext:Ext w0 wr
 bb:Blk wr p.gb 141 (Z0 gA hs.length gc (.slice (some ⟨p.gH,0,none⟩) hs.length hs.length) (.slice (some ⟨p.gM,0,none⟩) hs.length hs.length) mark (.map (some p.gm)) (.slice LA sts.length Lc))
 bh:Blk wr p.gH 51 (VM rows)
 ro:VZ wr hs cs hs.length rows
 bm:∃ms,Blk wr p.gM 3 (Wy ms)/\ms.length=hs.length/\∀i,i<hs.length->ms.getD i 0<=mark
 nm:NmI wr p.base p.gb p.gm p.gM LA Lc sts
 lo:w0.heap.size<=p.base/\w0.heap.size<=p.gb/\w0.heap.size<=p.gm/\w0.heap.size<=p.gM/\w0.heap.size<=p.gH
 bs:p.base<=wr.heap.size
theorem VZ.kpT {w w':World}{hs:List Hin}{cs:List Int}{i:Nat}{rows:List Kb}{p:Nat->Prop}(h:VZ w hs cs i rows)(k:KpP p w w')(hp:∀b,p b->∀cur,w.heap[b]?≠some (.cells cur 4 (0,0))):VZ w' hs cs i rows:=
 ⟨h.len,h.val,fun q hq hqi=>(h.ib q hq hqi).kpT (h.ty q hq hqi) k hp,fun q hq hqi=>(h.ty q hq hqi).kp k hp,h.nil⟩
theorem yA {w:World}{g T:Nat}{cs:Array Value}(h:Blk w g T cs)(hT:T≠4):∀cur,w.heap[g]?≠some (.cells cur 4 (0,0)):=fun cur hh=>by
 unfold Blk at h;rw[h] at hh;injection hh with hh;injection hh with _ h3
 exact hT h3
theorem zQ {α β:Type}{w:World}{g T:Nat}{kv:α->Value}{vv:β->Value}{l:List (α×β)}(h:WX w g kv vv l):∀cur,w.heap[g]?≠some (.cells cur T (0,0)):=fun cur hh=>by
 obtain⟨es,cl,h2,_⟩:=h;rw[hh] at h2;cases h2
theorem XJ {w:World}{base e s n c T:Nat}{A:Option Addr}{xs:List Value}(h:QQ w base e s A n c xs)(he:e≠T){b:Nat}(hb:A.map (·.block)=some b):∀cur,w.heap[b]?≠some (.cells cur T (0,0)):=fun cur hh=>by
 obtain⟨_,cur2,h2⟩:=QQ.blt h hb;rw[h2] at hh;injection hh with hh;injection hh with _ h3
 exact he h3
namespace BS
variable {wr w' w0:World} {p:BP} {gA LA:Option Addr} {gc Lc:Nat} {hs:List Hin} {cs:List Int} {rows:List Kb} {mark:Int} {sts:List Hl}
theorem extW (h:BS wr w0 p gA gc hs cs rows mark LA Lc sts)(x:Ext wr w'):BS w' w0 p gA gc hs cs rows mark LA Lc sts:=by
 obtain⟨h1,h2,h3,h4,⟨ms,h5,h6⟩,h7,h8,h9⟩:=h;exact⟨h1.trans x,h2.ext x,h3.ext x,h4.kpT (p:=fun _=>False) (KpP.of_ext x) (fun _ h=>h.elim),⟨ms,h5.ext x,h6⟩,h7.ext x,h8,Nat.le_trans h9 x.size⟩
theorem list (h:BS wr w0 p gA gc hs cs rows mark LA Lc sts){ms:List Int}{mark':Int}
 (bb:Blk w' p.gb 141 (Z0 gA hs.length gc (.slice (some ⟨p.gH,0,none⟩) hs.length hs.length) (.slice (some ⟨p.gM,0,none⟩) hs.length hs.length) mark' (.map (some p.gm)) (.slice LA sts.length Lc)))
 (bm:Blk w' p.gM 3 (Wy ms)) (hml:ms.length=hs.length) (hms:∀i,i<hs.length->ms.getD i 0<=mark') (k:KpP (fun b=>b=p.gb\/b=p.gM) wr w'):BS w' w0 p gA gc hs cs rows mark' LA Lc sts:=by
 obtain⟨h1,h2,h3,h4,⟨ms0,h5,h6⟩,h7,h8,h9⟩:=h;have hn:∀{T:Nat},T≠141->T≠3->∀b,(b=p.gb\/b=p.gM)->∀cur,wr.heap[b]?≠some (.cells cur T (0,0)):=fun hT1 hT2 b hb cur hh=>by
  rcases hb with rfl|rfl
  ·unfold Blk at h2;rw[h2] at hh;injection hh with hh;injection hh with _ h3;exact hT1 h3.symm
  ·unfold Blk at h5;rw[h5] at hh;injection hh with hh;injection hh with _ h3;exact hT2 h3.symm
 have hbk:∀{g T:Nat} {cs:Array Value},Blk wr g T cs->T≠141->T≠3->Blk w' g T cs:=fun hb hT1 hT2=>(k.block _ hb.lt (fun hq=>hn hT1 hT2 _ hq _ hb)).trans hb;have hmb:p.gm≠p.gb:=h7.map.ne h2;have hmM:p.gm≠p.gM:=h7.map.ne h5;refine⟨h1.thenP k (fun i hi=>?_),bb,hbk h3 de de,h4.kpT k (hn de de),⟨ms,bm,hml,hms⟩,⟨h7.map.kp k (fun e=>e.elim hmb hmM),QQ.kp h7.own k (fun b hb hq=>?_),fun z hz=>?_,fun z hz=>?_,h7.nM,h7.lt⟩,h8,Nat.le_trans h9 k.size⟩
 ·rcases hi with rfl|rfl
  ·exact h8.2.1
  ·exact h8.2.2.2.1
 ·obtain⟨_,cur,hh⟩:=QQ.blt h7.own hb;exact hn de de b hq cur hh
 ·refine IL.kp (h7.il z hz) k (fun _ b hb hq=>?_);obtain⟨cur,hh⟩:=h7.ty z hz b hb;rcases hq with rfl|rfl
  ·unfold Blk at h2;rw[h2] at hh;injection hh with hh;injection hh with _ h3;revert h3;decide
  ·exact h7.nM z hz hb
 ·intro b hb;obtain⟨cur,hh⟩:=h7.ty z hz b hb;refine⟨cur,(k.block b (Array.getElem?_eq_some_iff.1 hh).1 (fun hq=>?_)).trans hh⟩;rcases hq with rfl|rfl
  ·unfold Blk at h2;rw[h2] at hh;injection hh with hh;injection hh with _ h3;revert h3;decide
  ·exact h7.nM z hz hb
theorem num (h:BS wr w0 p gA gc hs cs rows mark LA Lc sts){LA':Option Addr}{Lc':Nat}{sts':List Hl}
 (bb:Blk w' p.gb 141 (Z0 gA hs.length gc (.slice (some ⟨p.gH,0,none⟩) hs.length hs.length) (.slice (some ⟨p.gM,0,none⟩) hs.length hs.length) mark (.map (some p.gm)) (.slice LA' sts'.length Lc')))
 (nm:NmI w' p.base p.gb p.gm p.gM LA' Lc' sts') (k:KpP (fun b=>b=p.gb\/b=p.gm\/LA.map (·.block)=some b) wr w'):BS w' w0 p gA gc hs cs rows mark LA' Lc' sts':=by
 obtain⟨h1,h2,h3,h4,⟨ms0,h5,h6⟩,h7,h8,h9⟩:=h;have hn:∀{T:Nat},T≠141->T≠22->∀b,(b=p.gb\/b=p.gm\/LA.map (·.block)=some b)->∀cur,wr.heap[b]?≠some (.cells cur T (0,0)):=fun hT1 hT2 b hb cur hh=>by
  rcases hb with rfl|rfl|hb
  ·unfold Blk at h2;rw[h2] at hh;injection hh with hh;injection hh with _ h3;exact hT1 h3.symm
  ·exact zQ h7.map cur hh
  ·exact XJ h7.own (fun e=>hT2 e.symm) hb cur hh
 have hbk:∀{g T:Nat} {cs:Array Value},Blk wr g T cs->T≠141->T≠22->Blk w' g T cs:=fun hb hT1 hT2=>(k.block _ hb.lt (fun hq=>hn hT1 hT2 _ hq _ hb)).trans hb;refine⟨h1.thenP k (fun i hi=>?_),bb,hbk h3 de de,h4.kpT k (hn de de),⟨ms0,hbk h5 de de,h6⟩,nm,h8,Nat.le_trans h9 k.size⟩;rcases hi with rfl|rfl|hi
 ·exact h8.2.1
 ·exact h8.2.2.1
 ·exact Nat.le_trans h8.1 (QQ.row h7.own _ hi)
end BS
end
section
open Go.RowKit
def Oth (w:World)(b:Nat):Prop:=∃cur T,w.heap[b]? = some (.cells cur T (0,0))/\T≠141/\T≠51/\T≠3/\T≠22
theorem Oth.ne {w:World}{b g T:Nat}{cs:Array Value}(h:Oth w b)(hb:Blk w g T cs)(hT:T=141\/T=51\/T=3\/T=22):b≠g:=by
 rintro rfl;obtain⟨cur,T2,h1,h2,h3,h4,h5⟩:=h;unfold Blk at hb;rw[hb] at h1;injection h1 with h1;injection h1 with _ e _
 rcases hT with hT|hT|hT|hT
 ·exact h2 (e▸hT)
 ·exact h3 (e▸hT)
 ·exact h4 (e▸hT)
 ·exact h5 (e▸hT)
theorem BS.far {wr w' w0:World}{p:BP}{gA LA:Option Addr}{gc Lc:Nat}{hs:List Hin}{cs:List Int}{rows:List Kb}{mark:Int}{sts:List Hl}{q:Nat->Prop}
 (h:BS wr w0 p gA gc hs cs rows mark LA Lc sts) (k:KpP q wr w') (hq:∀b,q b->Oth wr b/\w0.heap.size<=b) (hro:VZ w' hs cs hs.length rows):BS w' w0 p gA gc hs cs rows mark LA Lc sts:=by
 obtain⟨h1,h2,h3,h4,⟨ms,h5,h6⟩,h7,h8,h9⟩:=h;have hbk:∀{g T:Nat} {ds:Array Value},Blk wr g T ds->(T=141\/T=51\/T=3\/T=22)->Blk w' g T ds:=fun hb hT=>(k.block _ hb.lt (fun hqb=>((hq _ hqb).1.ne hb hT) rfl)).trans hb;have hint:∀b,q b->∀cur,wr.heap[b]?≠some (.cells cur 3 (0,0)):=fun b hb cur hh=>by
  obtain⟨cur2,T,e1,_,_,e4,_⟩:=(hq b hb).1;rw[hh] at e1;injection e1 with e1;injection e1 with _ e2 _
  exact e4 e2.symm
 refine⟨h1.thenP k (fun i hi=>(hq i hi).2),hbk h2 (.inl rfl),hbk h3 (.inr (.inl rfl)),hro,⟨ms,hbk h5 (.inr (.inr (.inl rfl))),h6⟩,
  ⟨h7.map.kp k (fun hqb=>?_),QQ.kp h7.own k (fun b hb hqb=>?_),fun z hz=>(h7.il z hz).kpT (h7.ty z hz) k hint,fun z hz=>(h7.ty z hz).kp k hint,h7.nM,h7.lt⟩,h8,Nat.le_trans h9 k.size⟩
 ·obtain⟨cur,T,e1,_⟩:=(hq _ hqb).1;exact zQ h7.map cur e1
 ·obtain⟨cur,T,e1,_,_,_,e5⟩:=(hq _ hqb).1;obtain⟨_,cur2,e6⟩:=QQ.blt h7.own hb;rw[e6] at e1;injection e1 with e1;injection e1 with _ e2 _
  exact e5 e2.symm
def TyK (w:World)(A:Option Addr):Prop:=∀b,A.map (·.block)=some b->∃cur,w.heap[b]? = some (.cells cur 21 (0,0))
def NoM (w:World)(q:Nat->Prop):Prop:=∀b,q b->∀cur T,w.heap[b]? = some (.cells cur T (0,0))->T≠136/\T≠152/\T≠21/\T≠4
theorem TyK.kp {w w':World}{A:Option Addr}{q:Nat->Prop}(h:TyK w A)(k:KpP q w w')(hq:NoM w q):TyK w' A:=fun b hb=>by
 obtain⟨cur,hh⟩:=h b hb;exact⟨cur,(k.block b (Array.getElem?_eq_some_iff.1 hh).1 (fun hqb=>(hq b hqb cur _ hh).2.2.1 rfl)).trans hh⟩
theorem KL.kpT {w w':World}{A:Option Addr}{c:Nat}{xs:List Int}{q:Nat->Prop}(h:KL w A c xs)(t:TyK w A)(k:KpP q w w')(hq:NoM w q):KL w' A c xs:=by
 refine⟨h.le,h.cap,h.rng,fun hn=>?_⟩;obtain⟨b,o,rfl,hc⟩:=h.at_ hn;obtain⟨cur,hh⟩:=t b rfl;refine⟨b,o,rfl,fun i hi=>?_⟩;rw[World.cell?_of_block (w:=w) (k.block b (World.block_lt_of_cell? _ _ (hc i hi)) (fun hqb=>(hq b hqb cur _ hh).2.2.1 rfl))];exact hc i hi
def JE (hs:List Kr):List Value:=hs.map (fun h=>.slice h.A h.l.length h.c)
structure ExM (wr:World)(g xb:Nat)(runes:Bool)(rA:Option Addr)(rn rc:Nat)(first:Int)(nA:Option Addr)(nc:Nat)(nxt:List Kr)(dA:Option Addr)(dc:Nat)(dn:List Bool):Prop where
 blk:Blk wr g 136 #[.bool runes,.slice rA rn rc,.int .i32 first,.slice nA nxt.length nc,.slice dA dn.length dc,.slice none 0 0]
 own:QQ wr xb 152 1 nA nxt.length nc (JE nxt)
 kl:∀z∈nxt,KL wr z.A z.c z.l
 ty:∀z∈nxt,TyK wr z.A
 od:QQ wr xb 4 1 dA dn.length dc (dn.map Value.bool)
namespace ExM
variable {wr w' w0:World} {g xb rn rc nc dc:Nat} {runes:Bool} {rA nA dA:Option Addr} {first:Int} {nxt:List Kr} {dn:List Bool}
theorem kp {q:Nat->Prop}(h:ExM wr g xb runes rA rn rc first nA nc nxt dA dc dn)(k:KpP q wr w')(hq:NoM wr q):ExM w' g xb runes rA rn rc first nA nc nxt dA dc dn:=by
 refine⟨(k.block _ h.blk.lt (fun hqb=>(hq _ hqb _ _ h.blk).1 rfl)).trans h.blk,QQ.kp h.own k (fun b hb hqb=>?_),fun z hz=>(h.kl z hz).kpT (h.ty z hz) k hq,fun z hz=>(h.ty z hz).kp k hq,QQ.kp h.od k (fun b hb hqb=>?_)⟩
 ·obtain⟨_,cur,hh⟩:=QQ.blt h.own hb;exact(hq b hqb cur _ hh).2.1 rfl
 ·obtain⟨_,cur,hh⟩:=QQ.blt h.od hb;exact(hq b hqb cur _ hh).2.2.2 rfl
theorem ext (h:ExM wr g xb runes rA rn rc first nA nc nxt dA dc dn)(x:Ext wr w'):ExM w' g xb runes rA rn rc first nA nc nxt dA dc dn:=
 h.kp (q:=fun _=>False) (KpP.of_ext x) (fun _ h=>h.elim)
end ExM
theorem BS.noN {wr w0:World}{p:BP}{gA LA:Option Addr}{gc Lc:Nat}{hs:List Hin}{cs:List Int}{rows:List Kb}{mark:Int}{sts:List Hl}(h:BS wr w0 p gA gc hs cs rows mark LA Lc sts):NoM wr (fun b=>b=p.gb\/b=p.gm\/LA.map (·.block)=some b):=by
 intro b hb cur T hh;have h2:=h.bb;rcases hb with rfl|rfl|hb
 ·unfold Blk at h2;rw[h2] at hh;injection hh with hh;injection hh with _ e _;subst e;decide
 ·exact(zQ h.nm.map cur hh).elim
 ·obtain⟨_,cur2,e2⟩:=QQ.blt h.nm.own hb;rw[e2] at hh;injection hh with hh;injection hh with _ e _;subst e;decide
def KX (gM:Nat)(w w':World):Prop:=∃q:Nat->Prop,KpP q w w'/\∀b,q b->∀cur T,w.heap[b]? = some (.cells cur T (0,0))->(T≠136/\T≠152/\T≠21/\T≠4)/\(T=3->b=gM)
namespace KX
variable {gM:Nat} {a b c w w':World}
theorem of_ext (x:Ext w w'):KX gM w w':=⟨fun _=>False,KpP.of_ext x,fun _ h=>h.elim⟩
theorem trans (h:KX gM a b)(k:KX gM b c):KX gM a c:=by
 obtain⟨q1,k1,n1⟩:=h;obtain⟨q2,k2,n2⟩:=k;refine⟨fun i=>q1 i\/(q2 i/\¬q1 i/\i<a.heap.size),KpP.chain (KpP.mono k1 (fun i hi=>.inl hi)) k2 (fun i hi=>?_),?_⟩
 ·by_cases h1:q1 i
  ·exact .inl (.inl h1)
  ·by_cases h2:i<a.heap.size
   ·exact .inl (.inr ⟨hi,h1,h2⟩)
   ·exact .inr om
 ·rintro i (hi|⟨h1,h2,h3⟩) cur T hh
  ·exact n1 i hi cur T hh
  ·exact n2 i h1 cur T ((k1.block i h3 h2).trans hh)
theorem thenNew {q:Nat->Prop}(h:KX gM a b)(k:KpP q b c)(hq:∀i,q i->a.heap.size<=i):KX gM a c:=by
 obtain⟨q1,k1,n1⟩:=h;exact⟨q1,KpP.chain k1 k (fun i hi=>.inr (hq i hi)),n1⟩
theorem lst {A:Option Addr}{cp:Nat}{xs:List Int}(k:KX gM w w')(h:IL w A cp xs)(t:TyI w A)(hn:A.map (·.block)≠some gM):IL w' A cp xs/\TyI w' A:=by
 obtain⟨q,k,n⟩:=k;have hb:∀b,A.map (·.block)=some b->¬q b:=fun b hb hq=>by
  obtain⟨cur,hh⟩:=t b hb;have:=(n b hq cur _ hh).2 rfl;subst this;exact hn hb
 refine⟨IL.kp h k (fun _ b h1 h2=>hb b h1 h2),fun b h1=>?_⟩;obtain⟨cur,hh⟩:=t b h1;exact⟨cur,(k.block b (Array.getElem?_eq_some_iff.1 hh).1 (hb b h1)).trans hh⟩
end KX
theorem ExM.kx {wr w':World}{g xb rn rc nc dc gM:Nat}{runes:Bool}{rA nA dA:Option Addr}{first:Int}{nxt:List Kr}{dn:List Bool}(h:ExM wr g xb runes rA rn rc first nA nc nxt dA dc dn)(k:KX gM wr w'):ExM w' g xb runes rA rn rc first nA nc nxt dA dc dn:=by
 obtain⟨q,k,n⟩:=k;exact h.kp k (fun b hb cur T hh=>(n b hb cur T hh).1)
def lJ (w0:World)(p:BP)(gA:Option Addr)(gc:Nat)(hs:List Hin)(cs:List Int)(rows:List Kb)(mark:Int)(LA:Option Addr)(Lc:Nat)(sts:List Hl)(l:List Nat)(w:World)(e:Ending)(w':World):Prop:=
 ∃(A:Option Addr) (c:Nat),e=.returned (.slice A l.length c)/\IL w' A c (Q3 l)/\TyI w' A/\A.map (·.block)≠some p.gM/\BS w' w0 p gA gc hs cs rows (mark+1) LA Lc sts/\KpP (fun b=>b=p.gb\/b=p.gM) w w'/\KX p.gM w w'
theorem D1 {w0 w:World}{p:BP}{gA:Option Addr}{gc:Nat}{hs:List Hin}{cs:List Int}{rows:List Kb}{mark:Int}{LA:Option Addr}{Lc:Nat}{sts:List Hl}(h:BS w w0 p gA gc hs cs rows mark LA Lc sts)
 {runes:Bool} {caps:Int} (hG:GOk runes caps (QW hs)) (hP:PL w0 gA gc hs) (hmk:0<=mark/\mark<=1000000000) (F:Option Addr) (fc:Nat) (fs:List Nat) (hF:IL w F fc (Q3 fs)) (tF:TyI w F) (nF:F.map (·.block)≠some p.gM) (hfs:∀i∈fs,i<hs.length) :
 Calls Tryz.prog 121 #[.pointer (some ⟨p.gb,0,none⟩),.slice F fs.length fc] w (lJ w0 p gA gc hs cs rows mark LA Lc sts (QX (QW hs) fs) w):=by
 obtain⟨ms,h5,h6,h7⟩:=h.bm;refine(T6 w0 w h.ext p.gb p.gM h.lo.2.2.2.1 h.lo.2.1 gA gc hs runes caps hG hP _ mark hmk _ _ ms h.bb h5 h6 h7 F fc fs (fun w' k=>IL.kp hF k (fun _ b hb hq=>?_)) hfs).mono ?_
 ·rcases hq with rfl|rfl
  ·obtain⟨cur,hh⟩:=tF _ hb;have h2:=h.bb;unfold Blk at h2;rw[h2] at hh;injection hh with hh;injection hh with _ h3;revert h3;decide
  ·exact nF hb
 ·rintro e w' ⟨A,c,ms',rfl,h1,h2,h3,h4,h5',h6',h7',k⟩;refine⟨A,c,rfl,h1,h3,fun e=>?_,h.list h4 h5' h6' h7' k,k,⟨_,k,fun b hb cur T hh=>?_⟩⟩
  ·have h8:=h2 _ e;have h9:=h5.lt;omega
  ·rcases hb with rfl|rfl
   ·have h2:=h.bb;unfold Blk at h2;rw[h2] at hh;injection hh with hh;injection hh with _ h3;subst h3
    exact⟨by decide,fun e=>absurd e (show ¬(141=3) by decide)⟩
   ·unfold Blk at h5;rw[h5] at hh;injection hh with hh;injection hh with _ h3;subst h3
    exact⟨by decide,fun _=>rfl⟩
def lK (w0:World)(p:BP)(gA:Option Addr)(gc:Nat)(hs:List Hin)(cs:List Int)(rows:List Kb)(mark:Int)(LA:Option Addr)(sts:List Hl)(l:List Nat)(w:World)(e:Ending)(w':World):Prop:=
 ∃(LA':Option Addr) (Lc':Nat) (sts':List Hl),e=.returned (.int .i32 (idx (QV sts') l))/\QV sts'=grow (QV sts) l/\BS w' w0 p gA gc hs cs rows mark LA' Lc' sts'/\KpP (fun b=>b=p.gb\/b=p.gm\/p.base<=b) w w'/\KX p.gM w w'
theorem Hq {w0 w:World}{p:BP}{gA:Option Addr}{gc:Nat}{hs:List Hin}{cs:List Int}{rows:List Kb}{mark:Int}{LA:Option Addr}{Lc:Nat}{sts:List Hl}(h:BS w w0 p gA gc hs cs rows mark LA Lc sts)
 (hsn:sts.length<=100000) (A:Option Addr) (c:Nat) (l:List Nat) (hl:IL w A c (Q3 l)) (hll:l.length<=10000) (hlt:∀i∈l,i<65536) (hty:TyI w A) (hnM:A.map (·.block)≠some p.gM) :
 Calls Tryz.prog 120 #[.pointer (some ⟨p.gb,0,none⟩),.slice A l.length c] w (lK w0 p gA gc hs cs rows mark LA sts l w):=by
 refine(NY w p.base p.gb p.gm p.gM h.bs gA hs.length gc _ _ mark LA Lc sts hsn h.bb h.nm A c l hl hll hlt hty hnM).mono ?_;rintro e w' ⟨LA',Lc',sts',rfl,h1,h2,h3,k⟩;refine⟨LA',Lc',sts',rfl,h1,h.num h2 h3 k,KpP.mono k (fun b hb=>?_),⟨_,k,fun b hb cur T hh=>?_⟩⟩
 ·rcases hb with hb|hb|hb
  ·exact .inl hb
  ·exact .inr (.inl hb)
  ·exact .inr (.inr (QQ.row h.nm.own b hb))
 ·refine⟨h.noN b hb cur T hh,fun e=>?_⟩;subst e;rcases hb with rfl|rfl|hb
  ·have h2:=h.bb;unfold Blk at h2;rw[h2] at hh;injection hh with hh;injection hh with _ h3;exact absurd h3 de
  ·exact(zQ h.nm.map cur hh).elim
  ·exact(XJ h.nm.own de hb cur hh).elim
section
variable (G:List Ins) (cs:List Int)
def W3 (L:List St)(l:St)(k:Nat):List St:=Q5 ((cs.take k).map (QZ G l)) L
def qW (L:List St)(l:St)(k:Nat):List Int:=WQ (fun j=>idx (W3 G cs L l k) (QZ G l (cs.getD j 0))) k cs.length
theorem zF (L:List St)(l:St):W3 G cs L l 0=L:=by simp[W3,Q5]
theorem YO (L:List St)(l:St){k:Nat}(hk:k<cs.length):W3 G cs L l (k+1)=grow (W3 G cs L l k) (QZ G l cs[k]):=by
 unfold W3 Q5;rw[List.take_succ_eq_append_getElem hk,List.map_append,List.foldl_append]
 rfl
theorem kK (L:List St)(l:St):W3 G cs L l cs.length=Q5 (cs.map (QZ G l)) L:=by unfold W3;rw[List.take_length]
theorem T9 (L:List St)(l:St){j k:Nat}(hj:j<k)(hjc:j<cs.length):QZ G l cs[j]=[]\/QZ G l cs[j]∈W3 G cs L l k:=by
 refine Yq _ _ _ (List.mem_map.2 ⟨cs[j],?_,rfl⟩);have h2:j<(cs.take k).length:=by rw[List.length_take];omega
 have h3:(cs.take k)[j]=cs[j]:=List.getElem_take
 rw[<-h3];exact List.getElem_mem h2
theorem Hj (L:List St)(l:St)(k:Nat):(qW G cs L l k).length=cs.length:=Wz _ _
theorem PO (L:List St)(l:St):qW G cs L l 0=List.replicate cs.length 0:=KI _ _
theorem PP (L:List St)(l:St){k:Nat}(hk:k<cs.length):(qW G cs L l k).set k (idx (W3 G cs L l (k+1)) (QZ G l cs[k]))=qW G cs L l (k+1):=by
 have e:qW G cs L l k=WQ (fun j=>idx (W3 G cs L l (k+1)) (QZ G l (cs.getD j 0))) k cs.length:=by
  unfold qW WQ;refine YL (fun j hj=>?_);by_cases hjk:j<k
  ·rw[if_pos hjk,if_pos hjk];have hg:cs.getD j 0=cs[j]:=by simp[List.getD_eq_getElem?_getD,hj]
   show idx (W3 G cs L l k) (QZ G l (cs.getD j 0))=idx (W3 G cs L l (k+1)) (QZ G l (cs.getD j 0))
   rw[hg,YO G cs L l hk];obtain⟨t,ht⟩:=FH (W3 G cs L l k) (QZ G l cs[k]);rw[ht,AU (T9 G cs L l hjk hj)]
  ·rw[if_neg hjk,if_neg hjk]
 rw[e];have h:=Jk (fun j=>idx (W3 G cs L l (k+1)) (QZ G l (cs.getD j 0))) k cs.length;have hg:cs.getD k 0=cs[k]:=by simp[List.getD_eq_getElem?_getD,hk]
 simp only[hg] at h;exact h
theorem UQ (L:List St)(l:St):qW G cs L l cs.length=cs.map (fun c=>idx (Q5 (cs.map (QZ G l)) L) (QZ G l c)):=by
 unfold qW;rw[VD _ _ _ (Nat.le_refl _),kK];unfold upF;refine List.ext_getElem si (fun j h1 h2=>?_);have hj:j<cs.length:=by simpa using h1
 simp[List.getD_eq_getElem?_getD,hj]
theorem vN {L:List St}{s t:St}(h:t∈grow L s):t∈L\/t=s:=by
 unfold grow at h
 split at h
 ·exact .inl h
 ·rcases List.mem_append.1 h with h|h
  ·exact .inl h
  ·exact .inr (by simpa using h)
theorem zW:∀{ts:List St} {L:List St} {t:St},t∈Q5 ts L->t∈L\/t∈ts
 | [],_,_,h=>.inl h
 | s::ts,L,t,h=>by
  rcases zW (ts:=ts) (L:=grow L s) h with h|h
  ·rcases vN h with h|h
   ·exact .inl h
   ·exact .inr (by simp[h])
  ·exact .inr (List.mem_cons_of_mem _ h)
structure KE (RES:Option (List St))(L:List St)(i:Nat)(first:Int)(rows:List (List Int))(dn:List Bool):Prop where
 le:L.length<=1024
 il:i<=L.length
 ex:expl (fun l=>cs.map (QZ G l)) (1030-i) i L=RES
 st0:QX G [0]=[]\/QX G [0]∈L
 fst:first=idx L (QX G [0])
 clo:∀j (hj:j<L.length),j<i->∀c∈cs,QZ G L[j] c=[]\/QZ G L[j] c∈L
 good:Yz L
 nx:rows=(L.take i).map (fun l=>cs.map (fun c=>idx L (QZ G l c)))
 dn:dn=(L.take i).map (Qk G)
 lt:∀l∈L,(∀q∈l,q<G.length)/\l.length<=G.length
theorem wH (fs:List Nat):(∀q∈QX G fs,q<G.length)/\(QX G fs).length<=G.length:=⟨fun q hq=>(CG G fs q hq).1,qY fs⟩
theorem KE.start:KE G cs (VS G cs) (grow [] (QX G [0])) 0 (idx (grow [] (QX G [0])) (QX G [0])) [] []:=by
 refine⟨?_,Nat.zero_le _,rfl,xG _ _,rfl,fun j _ h=>absurd h (Nat.not_lt_zero _),vQ ⟨List.nodup_nil,by simp⟩ _,by simp,by simp,fun l hl=>?_⟩
 ·unfold grow;split<;>simp
 ·rcases vN hl with h|h
  ·simp at h
  ·rw[h];exact wH G _
variable {G cs} {RES:Option (List St)} {L:List St} {i:Nat} {first:Int} {rows:List (List Int)} {dn:List Bool}
theorem KE.exs (h:KE G cs RES L i first rows dn)(hi:i<L.length):expl (fun l=>cs.map (QZ G l)) (1030-(i+1)) (i+1) (Q5 (cs.map (QZ G L[i])) L)=RES:=by
 have h1:=h.ex;have h2:=h.le;have e:1030-i=(1030-(i+1))+1:=om;rw[e,CC om hi] at h1;exact h1
theorem KE.over (h:KE G cs RES L i first rows dn)(hi:i<L.length){k:Nat}(ho:1024<(W3 G cs L L[i] k).length):RES=none:=by
 rw[<-h.exs hi];refine Cx ?_;have e:cs.map (QZ G L[i])=(cs.take k).map (QZ G L[i])++(cs.drop k).map (QZ G L[i]):=by rw[<-List.map_append,List.take_append_drop]
 have e2:Q5 (cs.map (QZ G L[i])) L=Q5 ((cs.drop k).map (QZ G L[i])) (W3 G cs L L[i] k):=by
  rw[e];unfold Q5 W3 Q5;rw[List.foldl_append]
 obtain⟨t,ht⟩:=VK ((cs.drop k).map (QZ G L[i])) (W3 G cs L L[i] k);rw[e2,ht,List.length_append];omega
theorem KE.fin (h:KE G cs RES L i first rows dn)(hi:¬i<L.length):RES=some L:=by
 have h1:=h.ex;have h2:=h.le;have h3:=h.il;have e:1030-i=(1029-i)+1:=om;rw[e,FI om om] at h1;exact h1.symm
theorem KE.step (h:KE G cs RES L i first rows dn)(hi:i<L.length)(hl:(Q5 (cs.map (QZ G L[i])) L).length<=1024) :
 KE G cs RES (Q5 (cs.map (QZ G L[i])) L) (i+1) first (rows++[cs.map (fun c=>idx (Q5 (cs.map (QZ G L[i])) L) (QZ G L[i] c))]) (dn++[Qk G L[i]]):=by
 obtain⟨t,ht⟩:=VK (cs.map (QZ G L[i])) L;have hlen:L.length<=(Q5 (cs.map (QZ G L[i])) L).length:=by rw[ht,List.length_append];omega
 have hm:=Yq (cs.map (QZ G L[i])) L;have htk:(Q5 (cs.map (QZ G L[i])) L).take (i+1)=L.take i++[L[i]]:=by
  rw[ht,List.take_append_of_le_length om,List.take_succ_eq_append_getElem hi]
 have hgt:∀j (hj:j<L.length),(Q5 (cs.map (QZ G L[i])) L)[j]'om=L[j]:=fun j hj=>by simp[ht,hj]
 have hsub:∀s,s=[]\/s∈L->s=[]\/s∈Q5 (cs.map (QZ G L[i])) L:=fun s hs=>hs.imp id (fun hs=>by rw[ht];exact List.mem_append_left _ hs);refine⟨hl,om,h.exs hi,hsub _ h.st0,?_,?_,qy _ h.good,?_,?_,fun l hl=>?_⟩
 ·rw[h.fst,ht,AU h.st0]
 ·intro j hj hji c hc;by_cases e:j=i
  ·subst e;rw[hgt j hi];exact hm _ (List.mem_map.2 ⟨c,hc,rfl⟩)
  ·rw[hgt j om];exact hsub _ (h.clo j om om c hc)
 ·rw[htk,List.map_append,h.nx]
  congr 1
  refine List.map_congr_left (fun l hl=>List.map_congr_left (fun c hc=>?_));obtain⟨j,hj,rfl⟩:=List.mem_iff_getElem.1 hl;have hj2:j<i:=by rw[List.length_take] at hj;omega
  have hj3:(L.take i)[j]=L[j]'om:=List.getElem_take;rw[hj3,ht,AU (h.clo j om hj2 c hc)]
 ·rw[htk,List.map_append,h.dn]
  rfl
 ·rcases zW hl with hl|hl
  ·exact h.lt l hl
  ·obtain⟨c,_,rfl⟩:=List.mem_map.1 hl;exact wH G _
end
theorem KL.kpU {w w':World}{A:Option Addr}{c:Nat}{xs:List Int}{q:Nat->Prop}(h:KL w A c xs)(t:TyK w A)(k:KpP q w w')(hq:∀b,q b->∀cur,w.heap[b]?≠some (.cells cur 21 (0,0))):KL w' A c xs/\TyK w' A:=by
 refine⟨⟨h.le,h.cap,h.rng,fun hn=>?_⟩,fun b hb=>?_⟩
 ·obtain⟨b,o,rfl,hc⟩:=h.at_ hn;obtain⟨cur,hh⟩:=t b rfl;refine⟨b,o,rfl,fun i hi=>?_⟩;rw[World.cell?_of_block (w:=w) (k.block b (World.block_lt_of_cell? _ _ (hc i hi)) (fun hqb=>hq b hqb cur hh))];exact hc i hi
 ·obtain⟨cur,hh⟩:=t b hb;exact⟨cur,(k.block b (Array.getElem?_eq_some_iff.1 hh).1 (fun hqb=>hq b hqb cur hh)).trans hh⟩
theorem YX {A:Option Addr}{wx w8 w9:World}(g i:Nat)(hg:wx.grownBy w8 (A.map (·.block)))(x:Ext w8 w9)(v:Value):KpP (fun b=>A.map (·.block)=some b\/b=g) wx (w9.setCell ⟨g,i,none⟩ v):=
 KpP.set (x:=⟨g,i,none⟩) (KpP.trans (KpP.mono (KpP.of_grown hg) (fun _ h=>.inl h)) (KpP.of_ext x)) (.inl (.inr rfl)) v
namespace ExM
variable {wx w8 w9:World} {g xb rn rc nc dc:Nat} {runes:Bool} {rA nA dA:Option Addr} {first:Int} {nxt:List Kr} {dn:List Bool}
theorem Y33z1 {P:Prop} (h:P:=by
 have h2:=h.blk;unfold Blk at h2;rw[h2] at hh;injection hh with hh;injection hh with _ h3;revert h3;decide):P:=h
theorem row (h:ExM wx g xb runes rA rn rc first nA nc nxt dA dc dn){gX:Nat}{r:List Int}(hX:Blk wx gX 21 (W0 r))(hr:∀x∈r,I32 x)(hrl:r.length<=maxLen){A8:Option Addr}{c8:Nat}{v:Value}(hv:v=.slice A8 (nxt.length+1) c8)
 (hg:wx.grownBy w8 (nA.map (·.block))) (x9:Ext w8 w9) (ho:QQ w8 xb 152 1 A8 (nxt.length+1) c8 (JE nxt++[.slice (some ⟨gX,0,none⟩) r.length r.length])) :
 ExM (w9.setCell ⟨g,3,none⟩ v) g xb runes rA rn rc first A8 c8 (nxt++[⟨some ⟨gX,0,none⟩,r.length,r⟩]) dA dc dn:=by
 subst hv;have k:=KpP.of_grown hg;have b8:=k.blk h.blk (QK h.own h.blk de);have k2:=YX g 3 hg x9 (.slice A8 (nxt.length+1) c8);have hn:∀b,(nA.map (·.block)=some b\/b=g)->∀cur,wx.heap[b]?≠some (.cells cur 21 (0,0)):=fun b hb=>by
  rcases hb with hb|rfl
  ·exact XJ h.own de hb
  ·intro cur hh;exact Y33z1
 have e1:(nxt++[(⟨some ⟨gX,0,none⟩,r.length,r⟩:Kr)]).length=nxt.length+1:=by simp
 have e2:JE (nxt++[(⟨some ⟨gX,0,none⟩,r.length,r⟩:Kr)])=JE nxt++[.slice (some ⟨gX,0,none⟩) r.length r.length]:=by simp[JE]
 have bX:=(k2.block gX hX.lt (fun hq=>hn gX hq _ hX)).trans hX;refine⟨?_,?_,fun z hz=>?_,fun z hz=>?_,QQ.kp h.od k2 (fun b hb hq=>?_)⟩
 ·rw[e1];have b:=(b8.ext x9).set 3 (.slice A8 (nxt.length+1) c8)
  simpa using b
 ·rw[e1,e2];exact QQ.far (QQ.ext ho x9) (QK (QQ.ext ho x9) (b8.ext x9) de) _
 ·rcases List.mem_append.1 hz with hz|hz
  ·exact((h.kl z hz).kpU (h.ty z hz) k2 hn).1
  ·have e:z=⟨some ⟨gX,0,none⟩,r.length,r⟩:=by simpa using hz
   subst e;exact KL.of_blk bX hr hrl
 ·rcases List.mem_append.1 hz with hz|hz
  ·exact((h.kl z hz).kpU (h.ty z hz) k2 hn).2
  ·have e:z=⟨some ⟨gX,0,none⟩,r.length,r⟩:=by simpa using hz
   subst e;intro b hb;have:gX=b:=by simpa using hb
   subst this;exact⟨_,bX⟩
 ·rcases hq with hq|rfl
  ·obtain⟨_,cur,hh⟩:=QQ.blt h.od hb;exact XJ h.own de hq cur hh
  ·exact QK h.od h.blk de hb
theorem put (h:ExM wx g xb runes rA rn rc first nA nc nxt dA dc dn){x:Bool}{A8:Option Addr}{c8:Nat}{v:Value}(hv:v=.slice A8 (dn.length+1) c8)
 (hg:wx.grownBy w8 (dA.map (·.block))) (x9:Ext w8 w9) (ho:QQ w8 xb 4 1 A8 (dn.length+1) c8 (dn.map Value.bool++[.bool x])) :
 ExM (w9.setCell ⟨g,4,none⟩ v) g xb runes rA rn rc first nA nc nxt A8 c8 (dn++[x]):=by
 subst hv;have k:=KpP.of_grown hg;have b8:=k.blk h.blk (QK h.od h.blk de);have k2:=YX g 4 hg x9 (.slice A8 (dn.length+1) c8);have hn:∀b,(dA.map (·.block)=some b\/b=g)->∀cur,wx.heap[b]?≠some (.cells cur 21 (0,0)):=fun b hb=>by
  rcases hb with hb|rfl
  ·exact XJ h.od de hb
  ·intro cur hh;exact Y33z1
 have e1:(dn++[x]).length=dn.length+1:=by simp
 have e2:(dn++[x]).map Value.bool=dn.map Value.bool++[.bool x]:=by simp
 refine⟨?_,QQ.kp h.own k2 (fun b hb hq=>?_),fun z hz=>((h.kl z hz).kpU (h.ty z hz) k2 hn).1,fun z hz=>((h.kl z hz).kpU (h.ty z hz) k2 hn).2,?_⟩
 ·rw[e1];have b:=(b8.ext x9).set 4 (.slice A8 (dn.length+1) c8)
  simpa using b
 ·rcases hq with hq|rfl
  ·obtain⟨_,cur,hh⟩:=QQ.blt h.own hb;exact XJ h.od de hq cur hh
  ·exact QK h.own h.blk de hb
 ·rw[e1,e2];exact QQ.far (QQ.ext ho x9) (QK (QQ.ext ho x9) (b8.ext x9) de) _
theorem fst (h:ExM wx g xb runes rA rn rc first nA nc nxt dA dc dn)(f:Int):ExM (wx.setCell ⟨g,2,none⟩ (.int .i32 f)) g xb runes rA rn rc f nA nc nxt dA dc dn:=by
 have k2:KpP (·=g) wx (wx.setCell ⟨g,2,none⟩ (.int .i32 f)):=KpP.set (p:=(·=g)) (x:=⟨g,2,none⟩) (KpP.refl _ _) (.inl rfl) _;have hn:∀b,b=g->∀cur,wx.heap[b]?≠some (.cells cur 21 (0,0)):=fun b hb cur hh=>by
  subst hb;exact Y33z1
 refine⟨?_,QQ.far h.own (QK h.own h.blk de) _,fun z hz=>((h.kl z hz).kpU (h.ty z hz) k2 hn).1,fun z hz=>((h.kl z hz).kpU (h.ty z hz) k2 hn).2,QQ.far h.od (QK h.od h.blk de) _⟩;have b:=h.blk.set 2 (.int .i32 f)
 simpa using b
end ExM
def QE (g:Nat)(p:BP)(b:Nat):Prop:=b=g\/b=p.gb\/b=p.gM\/b=p.gm
theorem BS.mac {wr w' w0:World}{p:BP}{gA LA A:Option Addr}{gc Lc xb T n c g:Nat}{hs:List Hin}{cs:List Int}{rows:List Kb}{mark:Int}{sts:List Hl}{xs:List Value}{cells:Array Value}
 (h:BS wr w0 p gA gc hs cs rows mark LA Lc sts) (ow:QQ wr xb T 1 A n c xs) (hT:T≠141/\T≠51/\T≠3/\T≠22) (hxb:w0.heap.size<=xb) (hb:Blk wr g 136 cells) (hgw:w0.heap.size<=g)
 (k:KpP (fun b=>A.map (·.block)=some b\/b=g) wr w') (hro:VZ w' hs cs hs.length rows):BS w' w0 p gA gc hs cs rows mark LA Lc sts:=by
 refine h.far k (fun b hq=>?_) hro;rcases hq with hq|rfl
 ·obtain⟨_,cur,hh⟩:=QQ.blt ow hq;exact⟨⟨cur,T,hh,hT⟩,Nat.le_trans hxb (QQ.row ow b hq)⟩
 ·exact⟨⟨_,_,hb,by decide⟩,hgw⟩
def lV (w0:World)(g xb:Nat)(runes:Bool)(rA:Option Addr)(rn rc:Nat)(G:List Ins)(cs:List Int)(RES:Option (List St))(e:Ending)(w':World):Prop:=
 (RES=none/\e=.returned (.bool false)/\Ext w0 w')\/
 (∃(R:List St) (first:Int) (nA:Option Addr) (nc:Nat) (nxt:List Kr) (dA:Option Addr) (dc:Nat) (dn:List Bool),RES=some R/\e=.returned (.bool true)/\Ext w0 w'/\ExM w' g xb runes rA rn rc first nA nc nxt dA dc dn/\KE G cs (some R) R R.length first (Wq nxt) dn)
def aY (z:Hz):Value:=.slice z.A z.l.length z.c
def YP (rows:List Hz):Array Value:=(rows.map aY).toArray
theorem Nq (rows:List Hz)(i:Nat)(z:Hz):(YP rows).setIfInBounds i (aY z)=YP (rows.set i z):=by simp[YP]
def vO:Hz:=⟨none,0,[]⟩
theorem Blk.cellZ {w:World}{g T:Nat}{rows:List Hz}(h:Blk w g T (YP rows)){i:Nat}(hi:i<rows.length):w.cell? ⟨g,i,none⟩=some (.slice rows[i].A rows[i].l.length rows[i].c):=by
 rw[h.cell];simp[YP,hi,aY]
structure BfM (w:World)(base gB:Nat)(rows:List Hz):Prop where
 blk:Blk w gB 22 (YP rows)
 own:∀z∈rows,WO w base 3 z.A z.c z.l
 ap:rows.Pairwise (fun a b=>∀k,a.A.map (·.block)=some k->b.A.map (·.block)≠some k)
namespace BfM
variable {w w' wx wa w8 w9:World} {base gB:Nat} {rows:List Hz}
theorem ext (h:BfM w base gB rows)(x:Ext w w'):BfM w' base gB rows:=⟨h.blk.ext x,fun z hz=>QQ.ext (h.own z hz) x,h.ap⟩
theorem start {n:Nat}(h:Blk w gB 22 (Array.replicate n (.slice none 0 0)))(base:Nat):BfM w base gB (List.replicate n vO):=by
 refine⟨?_,fun z hz=>?_,?_⟩
 ·have e:YP (List.replicate n vO)=Array.replicate n (.slice none 0 0):=by
   simp[YP,aY,vO]
  rw[e];exact h
 ·obtain rfl:=(List.mem_replicate.1 hz).2;exact QQ.nil _ _ _ _
 ·rw[List.pairwise_iff_getElem];intro i j hi hj hij k hk;rw[List.getElem_replicate] at hk;simp[vO] at hk
theorem apart (h:BfM w base gB rows){i j:Nat}(hi:i<rows.length)(hj:j<rows.length)(hij:i≠j){k:Nat}(hk:rows[i].A.map (·.block)=some k):rows[j].A.map (·.block)≠some k:=by
 have hp:=List.pairwise_iff_getElem.1 h.ap;rcases Nat.lt_or_gt_of_ne hij with h1|h1
 ·exact hp i j hi hj h1 k hk
 ·exact fun e=>hp j i hj hi h1 k e hk
theorem kp {q:Nat->Prop}(h:BfM w base gB rows)(k:KpP q w w')(hq:∀b,q b->∀cur T,w.heap[b]? = some (.cells cur T (0,0))->T≠3/\T≠22):BfM w' base gB rows:=by
 refine⟨(k.block _ h.blk.lt (fun hqb=>(hq _ hqb _ _ h.blk).2 rfl)).trans h.blk,fun z hz=>QQ.kp (h.own z hz) k (fun b hb hqb=>?_),h.ap⟩;obtain⟨_,cur,hh⟩:=QQ.blt (h.own z hz) hb;exact(hq b hqb cur _ hh).1 rfl
theorem put (h:BfM wx base gB rows){t:Nat}(ht:t<rows.length){x:Int}{A8:Option Addr}{c8:Nat}{v:Value}(hv:v=.slice A8 (rows[t].l++[x]).length c8)(xa:Ext wx wa)
 (ho:WO w8 base 3 A8 c8 (rows[t].l++[x])) (hg:wa.grownBy w8 (rows[t].A.map (·.block))) (hat:A8.map (·.block)=rows[t].A.map (·.block)\/A8.map (·.block)=some wa.heap.size) (x9:Ext w8 w9) :
 BfM (w9.setCell ⟨gB,t,none⟩ v) base gB (rows.set t ⟨A8,c8,rows[t].l++[x]⟩):=by
 subst hv;have k:=KpP.of_grown hg;have ha:=h.ext xa;have b8:=k.blk ha.blk (QK (ha.own _ (List.getElem_mem ht)) ha.blk de);have b9:=b8.ext x9;have hold:∀j (hj:j<rows.length),j≠t->WO (w9.setCell ⟨gB,t,none⟩ (.slice A8 (rows[t].l++[x]).length c8)) base 3 rows[j].A rows[j].c rows[j].l/\(∀b,rows[j].A.map (·.block)=some b->A8.map (·.block)≠some b):=fun j hj hjt=>by
  have o8:=QQ.kp (ha.own _ (List.getElem_mem hj)) k (fun b hb=>ha.apart hj ht hjt hb);have o9:=QQ.ext o8 x9;refine⟨QQ.far o9 (QK o9 b9 de) _,fun b hb e=>?_⟩;rcases hat with e2|e2
  ·rw[e2] at e;exact ha.apart hj ht hjt hb e
  ·rw[e2] at e;injection e with e
   have:=(QQ.blt (ha.own _ (List.getElem_mem hj)) hb).1;omega
 refine⟨?_,fun z hz=>?_,?_⟩
 ·have b:=b9.set t (.slice A8 (rows[t].l++[x]).length c8);have e:=Nq rows t ⟨A8,c8,rows[t].l++[x]⟩;unfold aY at e;rw[e] at b;exact b
 ·obtain⟨j,hj,e⟩:=List.getElem_of_mem hz;rw[List.length_set] at hj;rw[List.getElem_set] at e;by_cases hjt:t=j
  ·rw[if_pos hjt] at e;subst e;exact QQ.far (QQ.ext ho x9) (QK (QQ.ext ho x9) b9 de) _
  ·rw[if_neg hjt] at e;subst e;exact(hold j hj (fun e=>hjt e.symm)).1
 ·rw[List.pairwise_iff_getElem];intro i j hi hj hij b hb;rw[List.length_set] at hi hj;rw[List.getElem_set] at hb ⊢;by_cases h1:t=i
  ·rw[if_pos h1] at hb;have h2:¬t=j:=om;rw[if_neg h2];exact fun e=>(hold j hj om).2 b e hb
  ·rw[if_neg h1] at hb;by_cases h2:t=j
   ·rw[if_pos h2];exact(hold i hi om).2 b hb
   ·rw[if_neg h2];exact h.apart hi hj om hb
end BfM
def BfN (nx:Nat->Nat->Int)(m i k n:Nat)(rows:List Hz):Prop:=rows.map (·.l)=(JS nx m i k n).map Q3
theorem BfN.start {nx:Nat->Nat->Int}{m n:Nat}:BfN nx m 0 0 n (List.replicate n vO):=by
 unfold BfN;rw[Mq];simp[vO,Q3]
theorem BfN.len {nx:Nat->Nat->Int}{m i k n:Nat}{rows:List Hz}(h:BfN nx m i k n rows):rows.length=n:=by
 have:=congrArg List.length h
 simpa[F7] using this
theorem BfN.get {nx:Nat->Nat->Int}{m i k n:Nat}{rows:List Hz}(h:BfN nx m i k n rows){t:Nat}(ht:t<rows.length):rows[t].l=Q3 (VA nx m i k t):=by
 have h1:(rows.map (·.l))[t]'(by simpa using ht)=((JS nx m i k n).map Q3)[t]'(by rw[List.length_map,F7];have:=h.len;omega):=by
  congr 1
 rw[List.getElem_map,List.getElem_map,jG] at h1;exact h1
theorem BfN.row {nx:Nat->Nat->Int}{m i n:Nat}{rows:List Hz}(h:BfN nx m i m n rows):BfN nx m (i+1) 0 n rows:=by
 unfold BfN at *;rw[h,SJ]
theorem BfN.no {nx:Nat->Nat->Int}{m i k n:Nat}{rows:List Hz}(h:BfN nx m i k n rows)(hx:nx i k<0):BfN nx m i (k+1) n rows:=by
 unfold BfN at *;rw[h,aR hx]
theorem BfN.yes {nx:Nat->Nat->Int}{m i k n:Nat}{rows:List Hz}(h:BfN nx m i k n rows){t:Nat}(ht:t<rows.length)(hx:nx i k=(t:Int))(A:Option Addr)(c:Nat):BfN nx m i (k+1) n (rows.set t ⟨A,c,rows[t].l++[(i:Int)]⟩):=by
 have hg:=h.get ht;unfold BfN at *
 rw[<-SK hx,List.map_set,List.map_set,h,hg];simp[Q3]
end
section
open Go.RowKit
attribute [local go_sem ↓] Go.wp_at_zero Go.wp_at_succ
structure FP where
 base:Nat
 gX:Nat
 gx:Nat
 gl:Nat
 g:Nat
 gB:Nat
 gO:Nat
def V5 (p:FP):Value:=.func (.func 122) #[] #[.pointer (some ⟨p.gX,0,none⟩),.pointer (some ⟨p.gx,0,none⟩),.pointer (some ⟨p.gl,0,none⟩)]
def kV (m:Ma)(oA:Option Addr)(n:Nat):Array Value:=#[.bool m.runes,.slice m.rA m.rn m.rc,.int .i32 m.first,.slice m.nA m.next.length m.nc,.slice m.dA m.done.length m.dc,.slice oA n n]
structure LeM (wr:World)(p:FP)(m:Ma)(rows:List Hz)(op:List Bool):Prop where
 bX:Blk wr p.gX 50 #[.slice (some ⟨p.gB,0,none⟩) rows.length rows.length]
 bm:Blk wr p.gx 43 #[.pointer (some ⟨p.g,0,none⟩)]
 bl:Blk wr p.gl 144 #[V5 p]
 bg:Blk wr p.g 136 (kV m (some ⟨p.gO,0,none⟩) rows.length)
 bo:Blk wr p.gO 4 (Ky op)
 bf:BfM wr p.base p.gB rows
 ol:op.length=rows.length
theorem LeM.kp {wr w':World}{p:FP}{m:Ma}{rows:List Hz}{op op':List Bool}(h:LeM wr p m rows op)(k:KpP (·=p.gO) wr w')(hb:Blk w' p.gO 4 (Ky op'))(hl:op'.length=rows.length):LeM w' p m rows op':=by
 have hbk:∀{g T:Nat} {ds:Array Value},Blk wr g T ds->T≠4->Blk w' g T ds:=fun hx hT=>(k.block _ hx.lt (fun e=>by
  subst e;have h2:=h.bo;unfold Blk at hx h2;rw[h2] at hx;injection hx with hx;injection hx with _ e _;exact hT e.symm)).trans hx
 refine⟨hbk h.bX de,hbk h.bm de,hbk h.bl de,hbk h.bg de,hb,h.bf.kp k (fun b hb cur T hh=>?_),hl⟩;subst hb;have h2:=h.bo;unfold Blk at h2;rw[h2] at hh;injection hh with hh;injection hh with _ e _
 subst e;exact⟨by decide,by decide⟩
theorem LeM.set {wr:World}{p:FP}{m:Ma}{rows:List Hz}{op:List Bool}(h:LeM wr p m rows op)(s:Nat):LeM (wr.setCell ⟨p.gO,s,none⟩ (.bool true)) p m rows (op.set s true):=by
 refine h.kp (KpP.set (p:=(·=p.gO)) (x:=⟨p.gO,s,none⟩) (KpP.refl _ _) (.inl rfl) _) ?_ (by rw[List.length_set];exact h.ol)
 rw[<-DU];exact h.bo.set s _
def lX (p:FP)(m:Ma)(rows:List Hz)(E:Nat->Nat->Prop)(op:List Bool)(t:Nat)(w:World)(e:Ending)(w':World):Prop:=
 ∃op',e=.returned (.tuple #[])/\LeM w' p m rows op'/\FL E (Mk1 op) (Mk1 op') t/\KpP (·=p.gO) w w'
theorem PR:∀args w,(callFunc 122 args).run Tryz.prog w=.ok (.enter 122 args) w:=enters_of Tryz.func122 kr rfl
theorem BfM.get {w:World}{base gB:Nat}{rows:List Hz}(h:BfM w base gB rows){t:Nat}(ht:t<rows.length){L:List Nat}(hL:rows[t].l=Q3 L){j:Nat}(hj:j<L.length):∃b o,rows[t].A=some ⟨b,o,none⟩/\w.cell? ⟨b,o+j,none⟩=some (.int .i64 (L[j]:Int)):=by
 have ho:=h.own _ (List.getElem_mem ht);rw[hL] at ho;have hj2:j<((Q3 L).map (Value.int .i64)).length:=by simp[Q3,hj]
 obtain⟨b,o,hA,hc⟩:=QQ.cells ho (by intro e;rw[e] at hj2;simp at hj2);refine⟨b,o,hA,?_⟩;have:=hc j hj2
 simpa[Q3] using this
theorem UW (p:FP)(m:Ma)(rows:List Hz)(nb:Nat->List Nat)(hN:∀t (ht:t<rows.length),rows[t].l=Q3 (nb t)/\(nb t).length<=1000000000/\∀q∈nb t,q<rows.length)(E:Nat->Nat->Prop)(hE:∀t q,t<rows.length->(E q t<->q∈nb t))(hn:rows.length<=1000000) :
 ∀(f:Nat) (w:World) (op:List Bool) (t:Nat),LeM w p m rows op->Xw op<f->t<rows.length->
 Calls Tryz.prog 122 #[.int .i64 t,.pointer (some ⟨p.gX,0,none⟩),.pointer (some ⟨p.gx,0,none⟩),.pointer (some ⟨p.gl,0,none⟩)] w (lX p m rows E op t w):=by
 intro f;induction f with
 | zero=>intro w op t _ h;omega
 | succ f ih=>
  intro w op t hM hf ht;have eg:=PR;obtain⟨hl,hll,hlt'⟩:=hN t ht;have cX:w.cell? ⟨p.gX,0,none⟩=some (.slice (some ⟨p.gB,0,none⟩) rows.length rows.length):=hM.bX.cell 0;have cR:=hM.bf.blk.cellZ ht;have HGET:=fun(wr:World) (op':List Bool) (h:LeM wr p m rows op') (j:Nat) (hj:j<(nb t).length)=>lh (h.bf.get ht hl hj);have hcap:=QQ.caps (hM.bf.own _ (List.getElem_mem ht));have hEt:=lh (fun q=>hE t q ht);rw[hl] at cR hcap;rw[JI] at cR hcap;generalize rows[t].A=A at *;generalize rows[t].c=c at *;generalize nb t=L at *;have HIH:=lh ih;have htI:(t:Int)<rows.length:=om;have H0:=lh hM;have HL0:=lh (show JR E (Mk1 op) (Mk1 op) t (fun q=>q∈L.take 0) from by simpa using JR.start E (Mk1 op) t);have HK0:Hid (KpP (·=p.gO) w w):=lh (KpP.refl _ _);have HSN:=lh hlt';clear ih hM hN hE hl hlt';go_enter Tryz.func122,Tryz.ntmps122
  go_upto_region 1 with fail
  go_loopw [12] (fun v wr=>∃(j:Nat) (op':List Bool),v=.int .i64 j/\j<=L.length/\Hid (LeM wr p m rows op')/\Hid (JR E (Mk1 op) (Mk1 op') t (fun q=>q∈L.take j))/\Hid (KpP (·=p.gO) w wr)/\Xw op'<=Xw op) (fun v _=>L.length-(intOf v).toNat)
  case atStart=>exact⟨0,op,rfl,om,H0,HL0,HK0,Nat.le_refl _⟩
  case round=>
   obtain⟨j,op',rfl,hj,HM,HL,HK,hcf⟩:=hrel;clear H0 HL0 HK0;by_cases hlt:j<L.length
   ·have hjI:(j:Int)<L.length:=om;obtain⟨b,o,hA,cj⟩:=(HGET wr op' HM.out j hlt).out;have hA':=hA;subst hA';have hsn:=HSN.out _ (List.getElem_mem hlt);have HES:Hid (E L[j] t):=lh ((hEt.out _).2 (List.getElem_mem hlt));have HTK:=fun q=>lh (show q∈L.take (j+1)<->q∈L.take j\/q=L[j] by rw[List.take_succ_eq_append_getElem hlt,List.mem_append,List.mem_singleton]);generalize L[j]=s at *;have hsI:(s:Int)<rows.length:=om;have hol:=HM.out.ol;have hso:s<op'.length:=om;have cm:wr.cell? ⟨p.gx,0,none⟩=some (.pointer (some ⟨p.g,0,none⟩)):=HM.out.bm.cell 0;have cg:wr.cell? ⟨p.g,5,none⟩=some (.slice (some ⟨p.gO,0,none⟩) rows.length rows.length):=HM.out.bg.cell 5;have cs:wr.cell? ⟨p.gO,s,none⟩=some (.bool op'[s]):=by rw[HM.out.bo.cell];simp[Ky,hso]
    have cl:wr.cell? ⟨p.gl,0,none⟩=some (V5 p):=HM.out.bl.cell 0;unfold V5 at cl;by_cases hb:op'[s]=true
    ·rw[hb] at cs;have HLN:=lh (show JR E (Mk1 op) (Mk1 op') t (fun q=>q∈L.take (j+1)) by
      have h:=HL.out.old (s:=s) (by unfold Mk1;rw[List.getD_eq_getElem?_getD,List.getElem?_eq_getElem hso,hb];rfl);exact⟨h.sub,fun q hq=>h.all q ((HTK q).out.1 hq),h.new⟩)
     clear hb
     go_wp2_with fail
     go_roundw
     case rel=>exact⟨j+1,op',by go_num,om,HM,HLN,HK,hcf⟩
     case measure=>simp[intOf];omega
    ·have hb2:op'[s]=false:=by simpa using hb
     rw[hb2] at cs;have HCS:=lh (F8 hso hb2);have fs:=HM.out.bo.frz s;clear hb hb2
     go_upto_region 5 with fail
     have HM2:=lh (HM.out.set s);have HK2:Hid (KpP (·=p.gO) w (wr.setCell ⟨p.gO,s,none⟩ (.bool true))):=lh (KpP.set (p:=(·=p.gO)) (x:=⟨p.gO,s,none⟩) HK.out (.inl rfl) _);generalize wr.setCell ⟨p.gO,s,none⟩ (.bool true)=w2 at *;have cl2:w2.cell? ⟨p.gl,0,none⟩=some (V5 p):=HM2.out.bl.cell 0;unfold V5 at cl2;clear cm cg cs fs cl;have hcf2:Xw (op'.set s true)<f:=by have:=HCS.out;omega
     go_upto_region 6 with(go_at_fn 122;refine(HIH.out w2 _ s HM2.out hcf2 om).mono ?_;rintro e w7 ⟨op7,rfl,h7,k7,kk7⟩)
     have HM7:=lh h7;have HLN:=lh (show JR E (Mk1 op) (Mk1 op7) t (fun q=>q∈L.take (j+1)) by
      have k8:FL E (fun x=>Mk1 op' x\/x=s) (Mk1 op7) s:=⟨fun x hx=>k7.sub x ((Mk1.set hso x).2 hx),k7.all,fun x hx hn=>k7.new x hx (fun h=>hn ((Mk1.set hso x).1 h))⟩;have h:=HL.out.step HES.out k8;exact⟨h.sub,fun q hq=>h.all q ((HTK q).out.1 hq),h.new⟩)
     have HK7:=lh (KpP.trans HK2.out kk7);have hcf7:Xw op7<=Xw op:=by
      have h1:=CL (op:=op'.set s true) (op':=op7) (by rw[List.length_set,hol,h7.ol]) k7.sub;have:=HCS.out;omega
     clear h7 k7 kk7 HM2 HK2 cl2
     go_wp2_with fail
     go_roundw
     case rel=>exact⟨j+1,op7,by go_num,om,HM7,HLN,HK7,hcf7⟩
     case measure=>simp[intOf];omega
   ·have hjI:¬(j:Int)<L.length:=om;obtain rfl:j=L.length:=om
    go_wp2_with fail
    refine bodyPost_ret (v:=.tuple #[]) (by simp[results,Tryz.results122,go_sem]) rfl ⟨op',rfl,HM.out,HL.out.done (fun q hq=>?_),HK.out⟩;have:=(hEt.out q).1 hq
    simpa using this
end
section
open Go.RowKit
structure JX (G:List Ins)(cs:List Int)(R:List St)(m:Ma):Prop where
 good:Yz R
 len:R.length<=1024
 st0:QX G [0]=[]\/QX G [0]∈R
 clo:∀l∈R,∀c∈cs,QZ G l c=[]\/QZ G l c∈R
 first:m.first=idx R (QX G [0])
 nx:Wq m.next=R.map (fun l=>cs.map (fun c=>idx R (QZ G l c)))
 dn:m.done=R.map (Qk G)
 ol:m.opn.length=R.length
def vP (G:List Ins)(cs:List Int)(cf:Int->Nat)(x:Int):Prop:=∃h:cf x<cs.length,∀l,QZ G l x=QZ G l cs[cf x]
section
variable {G:List Ins} {cs:List Int} {R:List St} {m:Ma} {cf:Int->Nat}
theorem JX.nx_at (h:JX G cs R m){s:St}(hs:s∈R){k:Nat}(hk:k<cs.length):m.nx (idx R s) k=idx R (QZ G s cs[k]):=by
 have hn:s≠[]:=fun e=>h.good.2 (e▸hs);obtain⟨h0,h1,h2⟩:=YD hs hn;unfold Ma.nx nxF;rw[h.nx];have h3:(R.map (fun l=>cs.map (fun c=>idx R (QZ G l c)))).getD (idx R s).toNat []=cs.map (fun c=>idx R (QZ G s c)):=by
  rw[List.getD_eq_getElem?_getD,List.getElem?_map,h2];rfl
 rw[h3];simp[List.getD_eq_getElem?_getD,hk]
theorem JX.dn_at (h:JX G cs R m){s:St}(hs:s∈R):m.dn (idx R s)=Qk G s:=by
 have hn:s≠[]:=fun e=>h.good.2 (e▸hs);obtain⟨h0,h1,h2⟩:=YD hs hn;unfold Ma.dn dmF;rw[h.dn,List.getD_eq_getElem?_getD,List.getElem?_map,h2]
 rfl
theorem JX.run (h:JX G cs R m)(l:List Int)(hl:∀x∈l,vP G cs cf x)(k:Nat)(s:St)(last:Int)(hs:s=[]\/s∈R) :
 W5 m.nx m.dn (l.map cf) k (idx R s) last=(idx R (WE (QZ G) (Qk G) l k s last).1,(WE (QZ G) (Qk G) l k s last).2)/\((WE (QZ G) (Qk G) l k s last).1=[]\/(WE (QZ G) (Qk G) l k s last).1∈R):=by
 refine N8 (R:=(·∈R)) (A:=vP G cs cf) (g:=idx R) (cl:=cf) (fun c=>JH G c) (Vx G) (by simp[idx]) (fun s hs=>?_) (fun s c hs hc=>?_) (fun s c hs hc=>?_) (fun s hs=>h.dn_at hs) l k s last hl hs
 ·have hn:s≠[]:=fun e=>h.good.2 (e▸hs);have:=YD hs hn;omega
 ·obtain⟨hk,he⟩:=hc;rw[he s];exact h.clo s hs _ (List.getElem_mem hk)
 ·obtain⟨hk,he⟩:=hc;rw[he s];exact h.nx_at hs hk
theorem UZ (hg:Yz R){s:St}(hs:s=[]\/s∈R):plc R s=idx R s:=by
 unfold plc idx;rcases hs with rfl|hs
 ·rw[if_neg hg.2,if_pos rfl]
 ·have hn:s≠[]:=fun e=>by rw[e] at hs;exact hg.2 hs
  rw[if_pos hs,if_neg hn]
theorem JX.start (h:JX G cs R m)(ts:List Int)(hl:∀x∈ts,vP G cs cf x)(k:Nat) :
 stF m (ts.map cf) k=idx R (rrun G (QX G [0]) (ts.drop k) 0).1/\enF m (ts.map cf) k=(if(rrun G (QX G [0]) (ts.drop k) 0).2 = -1 then -1 else(k:Int)+(rrun G (QX G [0]) (ts.drop k) 0).2)/\
 ((rrun G (QX G [0]) (ts.drop k) 0).1=[]\/(rrun G (QX G [0]) (ts.drop k) 0).1∈R):=by
 have hd:(ts.map cf).drop k=(ts.drop k).map cf:=by rw[List.map_drop]
 have hr:=h.run (cf:=cf) (ts.drop k) (fun x hx=>hl x (List.mem_of_mem_drop hx)) 0 (QX G [0]) (if Qk G (QX G [0])=true/\(0:Int)=0 then 0 else -1) h.st0;have hini:Jx m.dn m.first k=(if(if Qk G (QX G [0])=true/\(0:Int)=0 then(0:Int) else -1) = -1 then(-1:Int) else(k:Int)+(if Qk G (QX G [0])=true/\(0:Int)=0 then(0:Int) else -1)):=by
  unfold Jx;rw[h.first];rcases h.st0 with h0|h0
  ·rw[h0,Vx];simp[idx]
  ·have hn:QX G [0]≠[]:=fun e=>h.good.2 (e▸h0);have hb:=YD h0 hn;rw[h.dn_at h0];by_cases hq:Qk G (QX G [0])=true
   ·have e:(if Qk G (QX G [0])=true/\(0:Int)=0 then(0:Int) else -1)=0:=if_pos ⟨hq,rfl⟩;rw[e,if_pos ⟨om,hq⟩,if_neg om];omega
   ·have e:(if Qk G (QX G [0])=true/\(0:Int)=0 then(0:Int) else -1) = -1:=if_neg (fun hh=>hq hh.1);rw[e,if_neg (fun hh=>hq hh.2),if_pos rfl]
 have hs:=qV m.nx m.dn ((ts.drop k).map cf) k 0 m.first _ (Jx m.dn m.first k) (-1) hini;rw[Nat.add_zero] at hs;have e:enS m.nx m.dn m.first (ts.map cf) k=W5 m.nx m.dn ((ts.drop k).map cf) k m.first (Jx m.dn m.first k):=by unfold enS;rw[hd]
 rw[h.first,hr.1] at hs;refine⟨?_,?_,hr.2⟩
 ·unfold stF;rw[e,h.first,hs]
  rfl
 ·unfold enF;rw[e,h.first,hs]
  rfl
theorem JX.found (h:JX G cs R m)(ts:List Int)(hl:∀x∈ts,vP G cs cf x)(sure:Bool)(fits:Int->Bool)(hf:∀st,fits st=(!sure || AE m st)):ZE m (ts.map cf) fits=ZQ G R m.opn ts sure:=by
 have hst:=h.start (cf:=cf) ts hl;have hfit:∀s,s=[]\/s∈R->fits (idx R s)=(!sure || (decide (plc R s<0) || !m.opn.getD (plc R s).toNat false)):=fun s hs=>by
  rw[hf,UZ h.good hs];unfold AE;have h7:(idx R s = -1)<->(idx R s<0):=by
   unfold idx;split<;>omega
  rw[decide_eq_decide.2 h7]
 have hup:∀k,ZM m (ts.map cf) fits k=Vw G R m.opn ts sure k:=fun k=>by
  induction k with
  | zero=>rfl
  | succ k ih=>
   rw[ZM,Vw,ih]
   congr 1
   obtain⟨h1,h2,h3⟩:=hst k;have hb:=Lw G (QX G [0]) (ts.drop k) 0;rw[h1,h2,hfit _ h3];unfold qI;by_cases hq:(rrun G (QX G [0]) (ts.drop k) 0).2 = -1
   ·rw[if_pos hq,hq];simp
   ·rw[if_neg hq];have h4:0<=(rrun G (QX G [0]) (ts.drop k) 0).2:=om;have h5:(k:Int)+(rrun G (QX G [0]) (ts.drop k) 0).2≠-1:=om;simp only[h4,decide_true,Bool.true_and,ne_eq,h5,not_false_eq_true,true_and]
 have hlen:(ts.map cf).length=ts.length:=by simp
 unfold ZE ZQ;rw[hlen,hup,Vw]
 congr 1
 unfold qI;have hd:ts.drop ts.length=[]:=List.drop_length;have hr:rrun G (QX G [0]) [] 0=(QX G [0],if Qk G (QX G [0])=true/\(0:Int)=0 then 0 else -1):=rfl;rw[hd,hr,h.first,hfit _ h.st0]
 simp only
 rcases h.st0 with h0|h0
 ·rw[h0,Vx];simp[idx]
 ·have hn:QX G [0]≠[]:=fun e=>h.good.2 (e▸h0);have hb:=YD h0 hn;rw[h.dn_at h0];by_cases hq:Qk G (QX G [0])=true
  ·have h6:idx R (QX G [0])≠-1:=om;simp[hq,h6]
  ·simp[hq]
end
section
variable (G:List Ins) (cs:List Int)
theorem kY (L:List St)(l:St):∀k,(W3 G cs L l k).length<=L.length+k
 | 0=>by rw[zF];exact Nat.le_refl _
 | k+1=>by
  by_cases hk:k<cs.length
  ·rw[YO G cs L l hk];have ih:=kY L l k;have h4:(grow (W3 G cs L l k) (QZ G l cs[k])).length<=(W3 G cs L l k).length+1:=by
    unfold grow;split
    ·omega
    ·simp
   omega
  ·have e:W3 G cs L l (k+1)=W3 G cs L l k:=by
    unfold W3;rw[List.take_of_length_le om,List.take_of_length_le om]
   have ih:=kY L l k;rw[e];omega
theorem UJ (L:List St)(l:St)(k:Nat):∃t,W3 G cs L l k=L++t:=VK _ _
structure RfI (RES:Option (List St))(L:List St)(i:Nat):Prop where
 il:i<=L.length/\i<=1024
 ex:expl (fun l=>cs.map (QZ G l)) (1030-i) i L=RES
 st0:QX G [0]=[]\/QX G [0]∈L
 clo:∀j (hj:j<L.length),j<i->∀c∈cs,QZ G L[j] c=[]\/QZ G L[j] c∈L
 good:Yz L
 lt:∀l∈L,(∀q∈l,q<G.length)/\l.length<=G.length
 len:L.length<=1025+cs.length
theorem RfI.start:RfI G cs (VS G cs) (grow [] (QX G [0])) 0:=by
 refine⟨⟨Nat.zero_le _,om⟩,rfl,xG _ _,fun j _ h=>absurd h (Nat.not_lt_zero _),vQ ⟨List.nodup_nil,by simp⟩ _,fun l hl=>?_,?_⟩
 ·rcases vN hl with h|h
  ·simp at h
  ·rw[h];exact wH G _
 ·unfold grow;split<;>simp<;>omega
variable {G cs} {RES:Option (List St)} {L:List St} {i:Nat}
theorem RfI.over (h:RfI G cs RES L i)(ho:1024<L.length):RES=none:=by
 rw[<-h.ex];exact Cx ho
theorem RfI.fin (h:RfI G cs RES L i)(hi:¬i<L.length):RES=some L/\L.length<=1024:=by
 have h1:=h.ex;have h2:=h.il;have e:1030-i=(1029-i)+1:=om;rw[e,FI om om] at h1;exact⟨h1.symm,om⟩
theorem RfI.step (h:RfI G cs RES L i)(hi:i<L.length)(hl:¬1024<L.length):RfI G cs RES (W3 G cs L L[i] cs.length) (i+1):=by
 rw[kK];obtain⟨t,ht⟩:=VK (cs.map (QZ G L[i])) L;have hlen:L.length<=(Q5 (cs.map (QZ G L[i])) L).length:=by rw[ht,List.length_append];omega
 have hm:=Yq (cs.map (QZ G L[i])) L;have hgt:∀j (hj:j<L.length),(Q5 (cs.map (QZ G L[i])) L)[j]'om=L[j]:=fun j hj=>by simp[ht,hj]
 have hsub:∀s,s=[]\/s∈L->s=[]\/s∈Q5 (cs.map (QZ G L[i])) L:=fun s hs=>hs.imp id (fun hs=>by rw[ht];exact List.mem_append_left _ hs);have hex:expl (fun l=>cs.map (QZ G l)) (1030-(i+1)) (i+1) (Q5 (cs.map (QZ G L[i])) L)=RES:=by
  have h1:=h.ex;have e:1030-i=(1030-(i+1))+1:=om;rw[e,CC hl hi] at h1;exact h1
 refine⟨⟨om,om⟩,hex,hsub _ h.st0,?_,qy _ h.good,fun l hl=>?_,?_⟩
 ·intro j hj hji c hc;by_cases e:j=i
  ·subst e;rw[hgt j hi];exact hm _ (List.mem_map.2 ⟨c,hc,rfl⟩)
  ·rw[hgt j om];exact hsub _ (h.clo j om om c hc)
 ·rcases zW hl with hl|hl
  ·exact h.lt l hl
  ·obtain⟨c,_,rfl⟩:=List.mem_map.1 hl;exact wH G _
 ·have h1:=kY G cs L L[i] cs.length;rw[kK] at h1;omega
end
def VE (G:List Ins)(cs:List Int)(R:List St)(op:List Bool):Prop:=op.length=R.length/\∀j (hj:j<R.length),op.getD j false=true<->Opn (QZ G) cs (Qk G) R[j]
def zZ (G:List Ins)(cs:List Int)(R:List St)(i:Nat)(op:List Bool):Prop:=op.length=i/\∀j (hj:j<R.length),j<i->(op.getD j false=true<->Opn (QZ G) cs (Qk G) R[j])
theorem zZ.zero (G:List Ins)(cs:List Int)(R:List St):zZ G cs R 0 []:=⟨rfl,fun _ _ h=>absurd h (Nat.not_lt_zero _)⟩
theorem zZ.snoc {G:List Ins}{cs:List Int}{R:List St}{i:Nat}{op:List Bool}(h:zZ G cs R i op)(hi:i<R.length){b:Bool}(hb:b=true<->Opn (QZ G) cs (Qk G) R[i]):zZ G cs R (i+1) (op++[b]):=by
 refine⟨by simp[h.1],fun j hj hji=>?_⟩;rw[List.getD_eq_getElem?_getD];by_cases e:j=i
 ·subst e;rw[List.getElem?_append_right (by rw[h.1];exact Nat.le_refl _),h.1]
  simpa using hb
 ·rw[List.getElem?_append_left (by rw[h.1];omega),<-List.getD_eq_getElem?_getD];exact h.2 j hj om
theorem zZ.all {G:List Ins}{cs:List Int}{R:List St}{op:List Bool}(h:zZ G cs R R.length op):VE G cs R op:=⟨h.1,fun j hj=>h.2 j hj hj⟩
theorem VE.uniq {G:List Ins}{cs:List Int}{R:List St}{op op':List Bool}(h:VE G cs R op)(k:VE G cs R op'):op=op':=by
 refine List.ext_getElem (by rw[h.1,k.1]) (fun j h1 h2=>?_);have hj:j<R.length:=by rw[h.1] at h1;exact h1
 have e1:=h.2 j hj;have e2:=k.2 j hj;rw[List.getD_eq_getElem?_getD,List.getElem?_eq_getElem h1] at e1;rw[List.getD_eq_getElem?_getD,List.getElem?_eq_getElem h2] at e2;have e3:=e1.trans e2.symm;simp only[Option.getD_some] at e3
 cases h3:op[j]<;>cases h4:op'[j]<;>simp[h3,h4] at e3 ⊢
structure V3 (G:List Ins):Prop where
 sets:(Ww G).length<=1024
 flat:(Ww G).flatten.length<=10000
 ends:∀top,(QI top (Ww G)).length<=1000
section
variable {runes:Bool} {caps:Int} {G:List Ins}
theorem zP (hS:V3 G)(top:Int):(classes (Ww G) top).length<=1000:=by
 rw[J0.len_keys];exact Nat.le_trans (Xz _ _ _) (hS.ends _)
theorem Hk (hS:V3 G):(WC runes G).length<=1000:=Nat.le_trans (List.length_filter_le _ _) (zP hS _)
theorem PS (hS:V3 G){top:Int}{c:List Sp}(hc:c∈classes (Ww G) top):c.length<=1000:=by
 obtain⟨i,hi,rfl⟩:=List.mem_iff_getElem.1 hc;exact Nat.le_trans (J0.clen hi) (hS.ends _)
theorem L7 (hS:V3 G){c:List Sp}(hc:c∈WC runes G):c.length<=1000:=PS hS (qR hc).1
theorem PU (hG:GOk runes caps G){c:List Sp}(hc:c∈WC runes G):∀s∈c,0<=s.1/\s.1<=1114111:=fun s hs=>by
 obtain⟨i,hi,rfl⟩:=List.mem_iff_getElem.1 (qR hc).1;have h1:=zv (hG.clOk.cok hi) s hs;unfold QH at h1;omega
theorem gy (runes:Bool):Qy runes 97=true:=by cases runes<;>decide
theorem P0 (hG:GOk runes caps G):Zk (WC runes G) (WC runes G).length≠[]:=by
 obtain⟨k,hk,hh⟩:=DF hG (gy runes);obtain⟨s,hs,_⟩:=ZD.1 hh;intro e;have h1:=vM (WC runes G) _ (Nat.le_refl _);rw[e,List.take_length] at h1;have h2:(s.1,k)∈strs (WC runes G):=xH.2 ⟨hk,s,hs,rfl⟩
 rw[<-h1] at h2;simp at h2
theorem Xk:(WH runes G).length=(WC runes G).length:=by simp[WH]
theorem vR:(Zj runes G).length=(WC runes G).length:=by simp[Zj]
def Nz (runes:Bool)(G:List Ins)(strt:List Sp):Prop:=∀x,Qy runes x=true->∃k,∃hk:k<(WH runes G).length,jO strt x k/\∀l,QZ G l x=QZ G l (WH runes G)[k]
theorem cT (hG:GOk runes caps G){m:List Sp}(hp:(Zk (WC runes G) (WC runes G).length).Perm m)(hs:m.Pairwise (fun a b=>a.1<=b.1)):Nz runes G m:=by
 intro x hx;obtain⟨k,hk,hh⟩:=DF hG hx;have hle:∀c∈WC runes G,∀s∈c,s.1<=s.2:=fun c hc=>yv hG (qR hc).1;refine⟨k,by rw[Xk];exact hk,gV hle (fun x k k' hk hk' h1 h2=>M7 hG x k k' hk hk' h1 h2) hp hs (fun p hp2=>CK _ p (hp.mem_iff.2 hp2)) hk hh,fun l=>?_⟩;have hm:=qR (List.getElem_mem hk);have e:(WH runes G)[k]'(by rw[Xk];exact hk)=JY runes (WC runes G)[k]:=by unfold WH;rw[List.getElem_map]
 rw[e];exact xX hG hm.1 hh (vZ (hle _ (List.getElem_mem hk)) (BZ hm.2).1) l
def nxN (rows:List (List Int))(p k:Nat):Int:=(rows.getD p []).getD k 0
def CV (n m:Nat)(rows:List (List Int))(p t:Nat):Prop:=p<n/\FM (nxN rows) m p t
def OpN (n m:Nat)(rows:List (List Int))(dn op:List Bool):Prop:=op.length=n/\∀j,Mk1 op j<->∃t,(t<n/\dn.getD t false=true)/\Rch (CV n m rows) j t
variable {cs:List Int} {R:List St} {first:Int} {rows:List (List Int)} {dn:List Bool}
theorem KE.rows_len (h:KE G cs (some R) R R.length first rows dn):rows.length=R.length/\dn.length=R.length/\∀r∈rows,r.length=cs.length/\∀x∈r,-1<=x/\x<R.length:=by
 refine⟨by rw[h.nx];simp,by rw[h.dn];simp,fun r hr=>?_⟩;rw[h.nx,List.take_length] at hr;obtain⟨l,hl,rfl⟩:=List.mem_map.1 hr;refine⟨by simp,fun x hx=>?_⟩;obtain⟨c,hc,rfl⟩:=List.mem_map.1 hx;obtain⟨j,hj,rfl⟩:=List.mem_iff_getElem.1 hl;rcases h.clo j hj hj c hc with h1|h1
 ·rw[h1];unfold idx;rw[if_pos rfl];omega
 ·have hn:QZ G R[j] c≠[]:=fun e=>h.good.2 (e▸h1);have:=YD h1 hn;omega
theorem KE.clo2 (h:KE G cs (some R) R R.length first rows dn):∀l∈R,∀c∈cs,QZ G l c=[]\/QZ G l c∈R:=fun l hl c hc=>by
 obtain⟨j,hj,rfl⟩:=List.mem_iff_getElem.1 hl;exact h.clo j hj hj c hc
theorem KE.mach (h:KE G cs (some R) R R.length first rows dn){m:Ma}(h1:m.first=first)(h2:Wq m.next=rows)(h3:m.done=dn)(h4:m.opn.length=R.length):JX G cs R m:=
 ⟨h.good,h.le,h.st0,h.clo2,by rw[h1];exact h.fst,by rw[h2,h.nx,List.take_length],by rw[h3,h.dn,List.take_length],h4⟩
theorem KE.opn (h:KE G cs (some R) R R.length first rows dn){op:List Bool}(ho:OpN R.length cs.length rows dn op):VE G cs R op:=by
 refine⟨ho.1,fun j hj=>?_⟩;have h1:=aO (f:=QZ G) (cs:=cs) (dn:=Qk G) h.good h.clo2 (nx:=nxN rows) (fun p hp k hk=>?_) (E:=CV R.length cs.length rows) (fun p t=>Iff.rfl) hj
 ·rw[<-h1];refine(ho.2 j).trans ⟨?_,?_⟩
  ·rintro⟨t,⟨ht,hd⟩,hr⟩;refine⟨t,⟨ht,?_⟩,hr⟩;rw[h.dn,List.take_length,List.getD_eq_getElem?_getD,List.getElem?_map,List.getElem?_eq_getElem ht] at hd
   simpa using hd
  ·rintro⟨t,⟨ht,hd⟩,hr⟩;refine⟨t,⟨ht,?_⟩,hr⟩;rw[h.dn,List.take_length,List.getD_eq_getElem?_getD,List.getElem?_map,List.getElem?_eq_getElem ht]
   simpa using hd
 ·unfold nxN;rw[h.nx,List.take_length];simp[List.getD_eq_getElem?_getD,hp,hk]
structure WK (w:World)(runes:Bool)(caps:Int)(G:List Ins)(g:Nat)(m:Ma)(strt:List Sp)(R:List St):Prop where
 ok:GOk runes caps G
 at_:JA w g m (WH runes G).length strt
 run:m.runes=runes
 sts:VS G (WH runes G)=some R
 mo:JX G (WH runes G) R m
 opn:VE G (WH runes G) R m.opn
 cls:Nz runes G strt
theorem WK.ext {w w':World}{g:Nat}{m:Ma}{strt:List Sp}(h:WK w runes caps G g m strt R)(x:Ext w w'):WK w' runes caps G g m strt R:=⟨h.ok,h.at_.ext x,h.run,h.sts,h.mo,h.opn,h.cls⟩
open Classical in
noncomputable def VW (runes:Bool) (G:List Ins) (strt:List Sp) (x:Int):Nat:=
 if h:∃k,∃hk:k<(WH runes G).length,jO strt x k/\∀l,QZ G l x=QZ G l (WH runes G)[k] then Classical.choose h else 0
theorem cU {strt:List Sp}(h:Nz runes G strt){x:Int}(hx:Qy runes x=true):vP G (WH runes G) (VW runes G strt) x/\jO strt x (VW runes G strt x):=by
 have h1:=h x hx;have e:VW runes G strt x=Classical.choose h1:=by unfold VW;rw[dif_pos h1]
 obtain⟨hk,h2,h3⟩:=Classical.choose_spec h1;unfold vP;rw[e];exact⟨⟨hk,h3⟩,h2⟩
theorem vS {strt:List Sp}(h:Nz runes G strt){ts:List Int}(ht:ts.all (Qy runes)=true):qO strt (WH runes G).length (VW runes G strt) ts/\∀x∈ts,vP G (WH runes G) (VW runes G strt) x:=by
 have h1:=fun x hx=>cU h (List.all_eq_true.1 ht x hx);exact⟨fun x hx=>⟨(h1 x hx).2,(h1 x hx).1.1⟩,fun x hx=>(h1 x hx).1⟩
end
def AF (runes:Bool)(caps:Int)(G:List Ins)(w:World)(e:Ending)(w':World):Prop:=
 Ext w w'/\((ZW runes caps G≠0/\e=.returned (.tuple #[.pointer none,.int .i64 (ZW runes caps G)]))\/
  (ZW runes caps G=0/\∃(g:Nat) (m:Ma) (strt:List Sp) (R:List St),e=.returned (.tuple #[.pointer (some ⟨g,0,none⟩),.int .i64 0])/\w.heap.size<=g/\WK w' runes caps G g m strt R))
theorem D2 {f:St->Int->St}{cs cs':List Int}{dn:St->Bool}(h:cs.length=cs'.length)(hk:∀k (h1:k<cs.length) (h2:k<cs'.length) l,f l cs[k]=f l cs'[k])(s:St):Opn f cs dn s<->Opn f cs' dn s:=by
 have h1:∀a b,Stp f cs a b<->Stp f cs' a b:=fun a b=>by
  unfold Stp;refine and_congr Iff.rfl ⟨?_,?_⟩
  ·rintro⟨c,hc,rfl⟩;obtain⟨k,hk1,rfl⟩:=List.mem_iff_getElem.1 hc;exact⟨cs'[k]'om,List.getElem_mem _,(hk k hk1 om a).symm⟩
  ·rintro⟨c,hc,rfl⟩;obtain⟨k,hk1,rfl⟩:=List.mem_iff_getElem.1 hc;exact⟨cs[k]'om,List.getElem_mem _,hk k om hk1 a⟩
 have h2:Stp f cs=Stp f cs':=by
  funext a b;exact propext (h1 a b)
 unfold Opn;rw[h2]
theorem dQ {runes:Bool}{caps:Int}{G:List Ins}(hG:GOk runes caps G){R:List St}{op:List Bool}:VE G (WH runes G) R op<->VE G (Zj runes G) R op:=by
 unfold VE;refine and_congr Iff.rfl (forall_congr' fun j=>forall_congr' fun hj=>iff_congr Iff.rfl (D2 (by rw[Xk,vR]) (fun k h1 h2 l=>?_) _));have hk:k<(WC runes G).length:=by rw[Xk] at h1;exact h1
 have e1:(WH runes G)[k]=JY runes (WC runes G)[k]:=List.getElem_map _;have e2:(Zj runes G)[k]=zM runes (WC runes G)[k]:=List.getElem_map _;rw[e1,e2];exact zw hG (List.getElem_mem hk) l
end
section
open Go.RowKit
attribute [local go_sem ↓] Go.wp_at_zero Go.wp_at_succ
theorem kw (a b c d e f:Int)(w:World):(Op.equalIn 10000 264 (.agg #[.int .i64 a,.int .i64 b,.int .i64 c]) (.agg #[.int .i64 d,.int .i64 e,.int .i64 f])).run Tryz.prog w=.ok (a == d&&b == e&&c == f) w:=by
 have u3:=Tryz.underlying3;have hS:Tryz.prog.underlying 264=some (.struct (Tryz.prog.fieldsOf 264)):=by kernel_rfl
 have hp:Tryz.prog.stoodInHeld 264=false:=by kernel_rfl
 rw[show(10000:Nat)=9999+1 from rfl,run_equalIn_agg w 9999 264 _ _ hS hp];simp only[Program.fieldsOf,Tryz.underlying264];go_simp;by_cases h1:a=d<;>by_cases h2:b=e<;>by_cases h3:c=f<;>simp[h1,h2,h3]
theorem jX (a b c d e f:Int)(h:a=d/\b=e/\c=f):(a == d&&b == e&&c == f)=true:=by simp[h]
theorem vT (a b c d e f:Int)(h:¬(a=d/\b=e/\c=f)):(a == d&&b == e&&c == f)=false:=by
 rw[Bool.eq_false_iff];intro hh;simp at hh;exact h ⟨hh.1.1,hh.1.2,hh.2⟩
theorem Nj {P:Prop} (h:P:=by
 go_enter Tryz.func154,Tryz.ntmps154
 go_wp2_with fail
 go_ret
 exact⟨rfl,Ext.rfl' _⟩):P:=h
theorem VN (w:World)(bx:Nat)(gA:Option Addr)(n gc:Nat)(hcap:n<=gc/\gc<=9223372036854775807)(hb:w.cell? ⟨bx,0,none⟩=some (.slice gA n gc))(x:Int) :
 Calls Tryz.prog 154 #[.int .i64 x,.pointer (some ⟨bx,0,none⟩)] w (QD (.bool (decide (0<=x/\x<n))) w):=by
 by_cases h0:0<=x
 ·by_cases h1:x<n
  ·rw[decide_eq_true ⟨h0,h1⟩];exact Nj
  ·rw[decide_eq_false (fun h=>h1 h.2)];exact Nj
 ·rw[decide_eq_false (fun h=>h0 h.1)];exact Nj
theorem XK:∀args w,(callFunc 154 args).run Tryz.prog w=.ok (.enter 154 args) w:=enters_of Tryz.func154 kr rfl
theorem Nk {P:Prop} (h:P:=by
 have j0:=kc0 k0;have j1:=kc0 k1;have j2:=kc0 k2;have j3:=kc0 k3;have j4:=kc0 k4;have ju0:=kc0 u0;have ju1:=kc0 u1;have ju2:=kc0 u2
 go_upto_region 24 with fail
 refine Xr.start [] kr ?_;refine Xtk 0 ?_;refine Xtn ?_
 iterate 13(first|refine Xtn ?_|refine Xsn ?_)
 iterate 2(refine Xtn ?_)
 iterate 15(first|refine Xtn ?_|refine Xsn ?_)
 iterate 2(refine Xtn ?_)
 refine Xdn fun w9 hE9 hK9=>?_;clear j0 j1 j2 j3 j4 ju0 ju1 ju2
 go_wp2_with fail
 go_ret
 exact⟨by rw[<-HRES.out];rfl,X1.trans hE9⟩):P:=h
theorem dW (gA:Option Addr)(n gc:Nat)(hn:n<=gc/\gc<=9223372036854775807)(runes:Bool)(caps:Int)(hcaps:0<=caps/\caps<=9)(zx zy zn:Int)(A:Option Addr)(c:Nat)(zl:List Sp)(w:World)(hL:SL w A c zl)(pb q:Nat)
 (c0:w.cell? ⟨pb,q,none⟩=some (.int .i64 0)) (c1:w.cell? ⟨pb,q+1,none⟩=some (.int .i64 zx)) (c2:w.cell? ⟨pb,q+2,none⟩=some (.int .i64 zy)) (c3:w.cell? ⟨pb,q+3,none⟩=some (.int .i64 zn)) (c4:w.cell? ⟨pb,q+4,none⟩=some (.slice A zl.length c)) :
 Calls Tryz.prog 113 #[.agg #[.slice gA n gc,.int .i64 caps,.bool runes],.pointer (some ⟨pb,q,none⟩)] w (QD (.bool (okB runes caps n ⟨0,zx,zy,zn,zl⟩)) w):=by
 have hlen:=hL.len;have BG0:=Blk.new w 48 #[.slice gA n gc,.int .i64 caps,.bool runes];have EG0:=Ext.alloc w (.cells #[.slice gA n gc,.int .i64 caps,.bool runes] 48);have BU:=Blk.new (w.alloc (.cells #[.slice gA n gc,.int .i64 caps,.bool runes] 48)) 264 #[.int .i64 0,.int .i64 0,.int .i64 0];have EU:=Ext.alloc (w.alloc (.cells #[.slice gA n gc,.int .i64 caps,.bool runes] 48)) (.cells #[.int .i64 0,.int .i64 0,.int .i64 0] 264);have BG:=BG0.ext EU;have X1:=EG0.trans EU;rw[World.size_alloc] at BU;obtain⟨res,hres⟩:∃res,Hid (okB runes caps n ⟨0,zx,zy,zn,zl⟩=res):=⟨_,lh rfl⟩;rw[hres.out];have eg:=XK;have HQ:=fun(a b c d e f:Int) (W:World)=>kw a b c d e f W;go_enter Tryz.func113,Tryz.ntmps113
 go_upto_region 4 with fail
 obtain⟨gx,hgx⟩:∃gx,gx=w.heap.size:=⟨_,rfl⟩
 rw[<-hgx] at BG BU ⊢;clear BG0;generalize (w.alloc (.cells #[.slice gA n gc,.int .i64 caps,.bool runes] 48)).alloc (.cells #[.int .i64 0,.int .i64 0,.int .i64 0] 264)=w1 at *;have hpg:pb<gx:=by have:=World.block_lt_of_cell? _ _ c0;simp only at this;omega
 have hgw:w.heap.size<=gx:=om;clear EG0 EU hgx;have k0:=X1.cell c0;have k1:=X1.cell c1;have k2:=X1.cell c2;have k3:=X1.cell c3;have k4:=X1.cell c4;have g0:w1.cell? ⟨gx,0,none⟩=some (.slice gA n gc):=BG.cell 0;have g1:w1.cell? ⟨gx,1,none⟩=some (.int .i64 caps):=BG.cell 1;have g2:w1.cell? ⟨gx,2,none⟩=some (.bool runes):=BG.cell 2;have u0:w1.cell? ⟨gx+1,0,none⟩=some (.int .i64 0):=BU.cell 0;have u1:w1.cell? ⟨gx+1,1,none⟩=some (.int .i64 0):=BU.cell 1;have u2:w1.cell? ⟨gx+1,2,none⟩=some (.int .i64 0):=BU.cell 2;clear c0 c1 c2 c3 c4;by_cases hs:zl=[]
 ·subst hs;by_cases hq:(zx=0/\zy=0/\zn=0)
  ·have HRES:Hid (res=true):=lh (by rw[<-hres.out];exact JK ⟨.inr rfl,.inr hq.2.1,.inr (.inr hq.1),.inr (.inr hq.2.2),.inl rfl⟩);have hqb:=jX zx zy zn 0 0 0 hq;have HQ2:=fun(W:World)=>HQ zx zy zn 0 0 0 W;rw[hqb] at HQ2;clear HQ hq hqb;exact Nk
  ·have HRES:Hid (res=false):=lh (by rw[<-hres.out];exact ZX (fun h=>hq (by have h1:=h.2.1;have h2:=h.2.2.1;have h3:=h.2.2.2.1;simp only at h1 h2 h3;omega)));have hqb:=vT zx zy zn 0 0 0 hq;have HQ2:=fun(W:World)=>HQ zx zy zn 0 0 0 W;rw[hqb] at HQ2;clear HQ hq hqb;exact Nk
 ·have HRES:Hid (res=false):=lh (by rw[<-hres.out];exact ZX (fun h=>h.1.elim (fun h1=>by first|exact absurd h1 de|(simp only at h1;omega)) hs));have hl0:((zl.length:Int) == 0)=false:=by rw[beq_eq_false_iff_ne];have:=List.length_pos_iff.2 hs;omega
  exact Nk
end
section
open Go.RowKit
theorem D3 {α:Type}[DecidableEq α]:∀{l E:List α},l.Nodup->(∀x∈l,x∈E)->l.length<=E.length
 | [],_,_,_=>Nat.zero_le _
 | x::l,E,h,hs=>by
  obtain⟨h1,h2⟩:=List.nodup_cons.1 h;have ih:=D3 (l:=l) (E:=E.erase x) h2 (fun y hy=>(List.mem_erase_of_ne (fun e=>h1 (by rw[<-e];exact hy))).2 (hs y (by simp[hy])));have hx:=hs x si;rw[List.length_erase_of_mem hx] at ih;have:=List.length_pos_of_mem hx;simp only[List.length_cons];omega
theorem gE {top T:Int}(hT:top<=T)(l:List Int)(n:Int):WD l n top=l\/WD l n top=WD l n T:=by
 by_cases h:top<n
 ·left;unfold WD;rw[if_pos (.inl h)]
 ·right;unfold WD
  have:¬T<n:=om;simp[h,this]
theorem L8 {top T:Int}(hT:top<=T){l E:List Int}{n:Int}(h:Kv l T)(hl:∀x∈l,x∈E)(hn:n∈E):Kv (WD l n top) T/\∀x∈WD l n top,x∈E:=by
 rcases gE hT l n with e|e
 ·rw[e];exact⟨h,hl⟩
 ·rw[e];exact⟨kT h,fun x hx=>by
   rcases(KP h).1 hx with h|⟨rfl,_⟩
   ·exact hl x h
   ·exact hn⟩
theorem L9 {top T:Int}(hT:top<=T){E:List Int}:∀(b:List Sp) {l:List Int},Kv l T->(∀x∈l,x∈E)->(∀s∈b,s.1∈E/\s.2+1∈E)->Kv (b.foldl (V7 top) l) T/\∀x∈b.foldl (V7 top) l,x∈E
 | [],l,h,h1,_=>⟨h,h1⟩
 | s::b,l,h,h1,h2=>by
  have hs:=h2 s si;obtain⟨k1,k2⟩:=L8 hT h h1 hs.1;obtain⟨k3,k4⟩:=L8 hT k1 k2 hs.2;exact L9 hT b (l:=V7 top l s) k3 k4 (fun t ht=>h2 t (by simp[ht]))
theorem UK {E:List Int}(h0:(0:Int)∈E)(top:Int)(ls:List (List Sp))(h:∀s∈ls.flatten,s.1∈E/\s.2+1∈E):(QI top ls).length<=E.length:=by
 obtain⟨h1,h2⟩:=L9 (top:=top) (T:=max top 0) om (E:=E) ls.flatten (l:=[0]) ⟨by simp,by simp;omega⟩ (by simpa using h0) h;exact D3 (h1.inc.imp (fun{a b} h e=>om)) h2
theorem Hv {k:Nat}:∀{ls:List (List Sp)},(∀a∈ls,a.length<=k)->ls.flatten.length<=ls.length*k
 | [],_=>by simp
 | a::ls,h=>by
  have ih:=Hv (ls:=ls) (fun b hb=>h b (by simp[hb]));have:=h a si;rw[List.flatten_cons,List.length_append,List.length_cons,Nat.add_mul,Nat.one_mul];omega
theorem vU {E:List Int}(h0:(0:Int)∈E)(hE:E.length<=100){hs:List Hin}(hl:hs.length<=1000)(h:∀i∈hs,zO E i.l):V3 (QW hs):=by
 have hm:∀a∈Ww (QW hs),zO E a:=fun a ha=>by
  unfold Ww QW at ha;obtain⟨i,hi,rfl⟩:=List.mem_map.1 ha;obtain⟨j,hj,rfl⟩:=List.mem_map.1 (List.mem_filter.1 hi).1;exact h j hj
 have hn:(Ww (QW hs)).length<=1000:=by
  unfold Ww QW;rw[List.length_map];have:=List.length_filter_le (fun i:Ins=>decide (i.op=1)) (hs.map Hin.ins);rw[List.length_map] at this;omega
 refine⟨om,?_,fun top=>?_⟩
 ·have:=Hv (k:=3) (fun a ha=>(hm a ha).1);omega
 ·have:=UK h0 top (Ww (QW hs)) (fun s hs=>by
   obtain⟨a,ha,hs⟩:=List.mem_flatten.1 hs;exact(hm a ha).2 s hs)
  omega
def Zv:List Ins:=[⟨1,0,0,0,[(97,97)]⟩,⟨2,2,4,0,[]⟩,⟨1,0,0,0,[(98,98)]⟩,⟨3,1,0,0,[]⟩,⟨1,0,0,0,[(99,99)]⟩,⟨0,0,0,0,[]⟩]
def W4:List Ins:=[⟨1,0,0,0,[(97,97)]⟩,⟨2,2,4,0,[]⟩,⟨1,0,0,0,[(98,98)]⟩,⟨3,1,0,0,[]⟩,⟨0,0,0,0,[]⟩]
theorem D4 {a:Int}(h:0<=a/\a<=1114111):QG [(a,a)]=0:=by
 rw[vY]
 ·simp
 ·intro i hi;simp only[List.length_cons,List.length_nil,Nat.zero_add,Nat.lt_one_iff] at hi;subst hi;intro _;refine⟨?_,fun h=>absurd h om⟩;simp[QH];omega
theorem RQ {G:List Ins}(h1:¬8192<G.length)(h2:G.length≠0)(h3:∀i∈G,WN false 0 G.length i)(h4:∃i,G.getLast? = some i/\i.op=0)(h5:∀i∈G,i.op≠5):Vq false 0 G=0:=by
 obtain⟨i,h6,h7⟩:=h4;have e:WG false 0 G=0:=by
  unfold WG;rw[if_neg h1,if_neg om,if_pos h3,h6];simp[h7]
 unfold Vq;rw[e,if_neg si,if_neg (by rintro⟨j,hj,h⟩;exact h5 j hj h)]
theorem jY {a:Int}(h:0<=a/\a<=255)(n:Nat):WN false 0 n ⟨1,0,0,0,[(a,a)]⟩:=by
 refine⟨by simp,by simp,by simp,by simp,.inr (.inl ⟨rfl,D4 om,fun s hs=>?_⟩)⟩;simp at hs;subst hs;simp[Wj];omega
theorem dZ:Vq false 0 Zv=0:=by
 refine RQ (by simp[Zv]) (by simp[Zv]) (fun i hi=>?_) ⟨_,rfl,rfl⟩ (fun i hi=>?_)
 ·simp only[Zv,List.mem_cons,List.not_mem_nil,or_false] at hi;rcases hi with rfl|rfl|rfl|rfl|rfl|rfl
  ·exact jY om _
  ·simp[WN,Zv]
  ·exact jY om _
  ·simp[WN,Zv]
  ·exact jY om _
  ·simp[WN]
 ·simp only[Zv,List.mem_cons,List.not_mem_nil,or_false] at hi;rcases hi with rfl|rfl|rfl|rfl|rfl|rfl<;>simp
theorem dJ:Vq false 0 W4=0:=by
 refine RQ (by simp[W4]) (by simp[W4]) (fun i hi=>?_) ⟨_,rfl,rfl⟩ (fun i hi=>?_)
 ·simp only[W4,List.mem_cons,List.not_mem_nil,or_false] at hi;rcases hi with rfl|rfl|rfl|rfl|rfl
  ·exact jY om _
  ·simp[WN,W4]
  ·exact jY om _
  ·simp[WN,W4]
  ·simp[WN]
 ·simp only[W4,List.mem_cons,List.not_mem_nil,or_false] at hi;rcases hi with rfl|rfl|rfl|rfl|rfl<;>simp
theorem D5:∀{az:List Int},(∀a∈az,0<=a/\a<=1114111)->JB (az.map (fun a=>[(a,a)]))=0
 | [],_=>rfl
 | a::az,h=>by
  rw[List.map_cons,JB,if_pos (D4 (h a si))];exact D5 (fun b hb=>h b (by simp[hb]))
theorem Hw {G:List Ins}{az:List Int}(h:Ww G=az.map (fun a=>[(a,a)]))(ha:∀a∈az,0<=a/\a<=1114111)(hc:(classes (Ww G) 255).any (fun a=>decide (64<a.length))=false):W1 (Ww G) (Wj false)=0:=by
 have e:Wj false=255:=rfl;unfold W1;rw[e,hc,h,D5 ha]
 simp
theorem RW {G:List Ins}(h1:Vq false 0 G=0)(h2:W1 (Ww G) (Wj false)=0)(h3:(VS G (WH false G)).isSome=true):ZW false 0 G=0:=by
 unfold ZW;rw[if_neg (by simp[h1]),if_neg (by simp[h2])]
 cases h:VS G (WH false G) with
 | none=>rw[h] at h3;cases h3
 | some _=>rfl
theorem dV:ZW false 0 Zv=0:=
 RW dZ (Hw (az:=[97,98,99]) rfl si dK) dK
theorem dX:ZW false 0 W4=0:=
 RW dJ (Hw (az:=[97,98]) rfl si dK) dK
theorem Hy {G:List Ins}{cs:List Int}{R:List St}{op:List Bool}(h:VE G cs R op){s:St}(hn:¬Opn (QZ G) cs (Qk G) s):(decide (plc R s<0) || !op.getD (plc R s).toNat false)=true:=by
 unfold plc
 split
 ·rename_i hm
  have h1:=List.idxOf_lt_length_of_mem hm;have h2:R[R.idxOf s]=s:=List.getElem_idxOf h1;have h3:=h.2 _ h1;rw[h2] at h3;have h4:op.getD (R.idxOf s) false=false:=by
   cases e:op.getD (R.idxOf s) false with
   | false=>rfl
   | true=>exact absurd (h3.1 e) hn
  simp only[Int.toNat_natCast,h4];simp
 ·simp
theorem D6 {G:List Ins}{cs:List Int}{R:List St}{op:List Bool}(h:VE G cs R op){s:St}(hm:s∈R)(hn:Opn (QZ G) cs (Qk G) s):(decide (plc R s<0) || !op.getD (plc R s).toNat false)=false:=by
 unfold plc;rw[if_pos hm];have h1:=List.idxOf_lt_length_of_mem hm;have h2:R[R.idxOf s]=s:=List.getElem_idxOf h1;have h3:=h.2 _ h1;rw[h2] at h3;simp only[Int.toNat_natCast,h3.2 hn];simp
theorem UV (R:List St)(op:List Bool):ZQ Zv R op [97,98] false=[]:=by
 have r0:(rrun Zv (QX Zv [0]) [97,98] 0).2 = -1:=by decide +kernel
 have r1:(rrun Zv (QX Zv [0]) [98] 0).2 = -1:=by decide +kernel
 have r2:(rrun Zv (QX Zv [0]) [] 0).2 = -1:=by decide +kernel
 simp[ZQ,Vw,qI,r0,r1,r2]
theorem UX {cs:List Int}{R:List St}{op:List Bool}(h:VE Zv cs R op):ZQ Zv R op [97,98,99] true=[(0,3)]:=by
 have r0:rrun Zv (QX Zv [0]) [97,98,99] 0=([5],3):=by decide +kernel
 have r1:(rrun Zv (QX Zv [0]) [98,99] 0).2 = -1:=by decide +kernel
 have r2:(rrun Zv (QX Zv [0]) [99] 0).2 = -1:=by decide +kernel
 have r3:(rrun Zv (QX Zv [0]) [] 0).2 = -1:=by decide +kernel
 have hn:∀c,QZ Zv [5] c=[]:=fun c=>rfl;have ho:¬Opn (QZ Zv) cs (Qk Zv) [5]:=by
  rintro⟨t,hr,hd⟩
  cases hr with
  | one h=>obtain⟨h1,c,_,h2⟩:=h;rw[hn] at h2;exact h1 h2.symm
  | cons h k=>obtain⟨h1,c,_,h2⟩:=h;rw[hn] at h2;exact h1 h2.symm
 have hs:=Hy h ho;simp[ZQ,Vw,qI,r0,r1,r2,r3] at hs ⊢;intro h;rcases hs with h1|h1
 ·omega
 ·exact h1
theorem RZ (R:List St)(op:List Bool):ZQ W4 R op [97,98] false=[(0,2)]:=by
 have r0:(rrun W4 (QX W4 [0]) [97,98] 0).2=2:=by decide +kernel
 have r1:(rrun W4 (QX W4 [0]) [98] 0).2 = -1:=by decide +kernel
 have r2:(rrun W4 (QX W4 [0]) [] 0).2 = -1:=by decide +kernel
 simp[ZQ,Vw,qI,r0,r1,r2]
theorem UY {cs:List Int}{R:List St}{op:List Bool}(h:VE W4 cs R op)(hm:[2,4]∈R){c:Int}(hc:c∈cs)(hal:QZ W4 [2,4] c=QZ W4 [2,4] 98):ZQ W4 R op [97,98] true=[]:=by
 have r0:rrun W4 (QX W4 [0]) [97,98] 0=([2,4],2):=by decide +kernel
 have r1:(rrun W4 (QX W4 [0]) [98] 0).2 = -1:=by decide +kernel
 have r2:(rrun W4 (QX W4 [0]) [] 0).2 = -1:=by decide +kernel
 have e:QZ W4 [2,4] 98=[2,4]:=by decide +kernel
 have ho:Opn (QZ W4) cs (Qk W4) [2,4]:=⟨[2,4],.one ⟨by simp,c,hc,hal.trans e⟩,by decide +kernel⟩;have hs:=D6 h hm ho;simp[ZQ,Vw,qI,r0,r1,r2] at hs ⊢
 simpa using hs
theorem RJ:(rrun W4 (QX W4 [0]) [97,98] 0).1=[2,4]:=by decide +kernel
end
