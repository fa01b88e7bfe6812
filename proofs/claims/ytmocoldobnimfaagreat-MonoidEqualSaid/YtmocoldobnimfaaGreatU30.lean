/- Texts of this proof: Y12 Y13. -/
import Derived.Test.YtmocoldobnimfaaGreatU29
set_option linter.all false
set_option maxRecDepth 100000
set_option maxHeartbeats 16000000
namespace Go.Proofs.YtmocoldobnimfaaGreat
section
open Go.RowKit
attribute [local go_sem ↓] Go.wp_at_zero Go.wp_at_succ
def strU (m:Ma)(cl:List Nat)(fits:Int→Bool):Nat→List Sp
 | 0=>[]
 | k+1=>strU m cl fits k++(if(enF m cl k≠-1∧fits (stF m cl k)=true) then[((k:Int),enF m cl k)] else[])
theorem strU_len (m:Ma)(cl:List Nat)(fits:Int→Bool):∀k,(strU m cl fits k).length≤k
 | 0=>Nat.le_refl _
 | k+1=>by
  have:=strU_len m cl fits k;rw[strU,List.length_append]
  split<;>simp<;>omega
def startsG (m:Ma)(cl:List Nat)(fits:Int→Bool):List Sp:=
 strU m cl fits cl.length++(if(m.first≠-1∧m.dn m.first=true∧fits m.first=true) then[((cl.length:Int),(cl.length:Int))] else[])
theorem strU_rng (m:Ma)(cl:List Nat)(fits:Int→Bool)(h:cl.length≤1000000):∀k,k≤cl.length→∀s∈strU m cl fits k,S64 s
 | 0,_,s,hs=>by simp[strU] at hs
 | k+1,hk,s,hs=>by
  rw[strU] at hs;rcases List.mem_append.1 hs with hs|hs
  ·exact strU_rng m cl fits h k om s hs
  ·split at hs
   ·have:s=((k:Int),enF m cl k):=by simpa using hs
    subst this;have h1:=enF_rng (m:=m) (cl:=cl) (k:=k) om;unfold S64 I64;simp only;omega
   ·simp at hs
theorem startsG_rng (m:Ma)(cl:List Nat)(fits:Int→Bool)(h:cl.length≤1000000):∀s∈startsG m cl fits,S64 s:=fun s hs=>by
 unfold startsG at hs;rcases List.mem_append.1 hs with hs|hs
 ·exact strU_rng m cl fits h _ (Nat.le_refl _) s hs
 ·split at hs
  ·have:s=((cl.length:Int),(cl.length:Int)):=by simpa using hs
   subst this;unfold S64 I64;simp only;omega
  ·simp at hs
theorem Y12z1 {P:Prop} (h:P:=by
 clear HSS hf
 go_upto_region 8 with fail
 refine Xr.start [] kr ?_;refine Xtk 0 ?_
 iterate 5(refine Xtn ?_)
 iterate 10(first|refine Xtn ?_|refine Xsn ?_)
 iterate 2(refine Xtn ?_)
 iterate 5(first|refine Xtn ?_|refine Xsn ?_)
 refine Xcl 23 fun w3 hE3 hK3 K hKK=>?_;go_simp;refine(HC w3 hE3).out.mono ?_;rintro e w4 ⟨rfl,x4⟩;refine hKK _ _ x4 ?_;clear hKK;refine ptm ?_;refine Xtk 24 ?_;refine Xdn fun w9 hE9 hK9=>?_;have x9:Ext w w9:=x1.trans ((hE3.trans x4).trans hE9);have HB9:=lh (OwnS.ext HB.out ((hE3.trans x4).trans hE9));have q1:w9.cell? ⟨ga,1,none⟩=some (.int .i64 n):=by
  have:=(HA.out.ext x9).blk.cell 1
  rw[←hn.out];exact this
 have kq1:=kx0 q1;clear jf jd je c2 cd c4d HC hE3 hK3 x4 hE9 hK9 HB HAr
 go_upto_region 9 with fail
 refine Xs.start (blkL B) 11 kr ?_;refine Xst 0 ?_;refine Xst 1 ?_;refine Xst 2 ?_;refine Xst 3 ?_;refine Xst 4 ?_;refine Xst 5 ?_;refine Xst 6 ?_;refine Xst 7 ?_;refine Xst 8 ?_;refine Xst 9 ?_;refine Xscl 10 fun w4 hE4 hX4 K hKK=>?_;go_simp;have bS:=Blk.new w4 82 (flatS [((n:Int),(n:Int))]).toArray;refine hKK _ _ (Ext.alloc _ _) ?_;clear hKK;refine ptm ?_;refine Xs.stop dK (fun w5 hE5 hX5=>?_);refine Xsp 11 fun w6 hE6 hK6 K hKK=>?_;have x6:=hX5.trans hE6;have b6:=(bS.ext hE5).ext hE6;have HO6:=OwnS.ext HB9.out x6;refine wp_app _ _ _ _ rfl w.heap.size 82 iA (.agg #[.int .i64 0,.int .i64 0]) 2 16 Tryz.underlying65 jA0 jA1 jA2 jA3 rfl om B U.length d (flatS U) rfl HO6 _ 1 1 (flatS [((n:Int),(n:Int))]) rfl rfl (blk_cells b6) (flatS_one _) um om (x9.trans x6).size ?_;intro X' cX' w7 ho7 hg7 hat7;refine hKK _ _ (WI_kp (KpP.of_grown hg7) (fun i hi=>mem_blkL.2 hi)) (hK6.kpP (KpP.of_grown hg7) (fun i hi=>mem_blkL.2 hi)) ?_;clear hKK;refine ptm ?_;refine Xtk 12 ?_;refine Xdn fun w8 hE8 hK8=>?_;have X8:=(Ext.app (x9.trans x6) HO6 hg7).trans hE8;have HO8:=lh (OwnS.ext ho7 hE8);have HL3:=lh (show(U++[((n:Int),(n:Int))]).length=U.length+1 by simp);clear ho7 hg7 hat7 HO6 b6 bS hE4 hX4 hE5 hX5 hE6 hK6 x6 hE8 hK8 kq1 q1
 go_wp2_with fail
 go_ret
 exact⟨X',cX',by rw[HL.out,HL3.out];rfl,by rw[HL.out];exact SL.of_ownT (base:=w.heap.size) (T:=82) (by rw[HL3.out,flatS_append];exact HO8.out) (HSG.out _ HL.out.symm),X8⟩):P:=h
theorem Y12z2 {P:Prop} (h:P:=by
 have HU2:=lh (show strU m cl fits (k+1)=U++[((k:Int),x)] by rw[hsu.out,if_pos ⟨hx,hf⟩]);have HU3:=lh (show(U++[((k:Int),x)]).length=U.length+1 by simp);have hw1:IntKind.i64.wrap x=x:=wj;clear hsu hf HC
 go_upto_region 6 with(go_at_fn nf;refine HC2.out.mono ?_;rintro e w5 ⟨rfl,x5⟩)
 have X7:=x1.trans x5;have HB7:=lh (OwnS.ext HB.out x5)
 go_wp2_with ((at_builtin;refine wpList_app _ rfl _ _ _ rfl w.heap.size 82 iA (.agg #[.int .i64 0,.int .i64 0]) 2 16 Tryz.underlying65 jA0 jA1 jA2 jA3 rfl om B U.length d (flatS U) rfl (OwnS.ext HB7.out (Ext.alloc _ _)) _ 1 1 [.int .i64 k,.int .i64 x] rfl rfl (blk_cells (Blk.new _ _ _)) (by intro u hu;simp only[List.mem_cons,List.not_mem_nil,or_false] at hu;rcases hu with rfl|rfl<;>rfl) um om (X7.trans (Ext.alloc _ _)).size ?_;intro B8 d8 w8 ho8 hg8 hat8))
 have x8:Ext w w8:=Ext.app (X7.trans (Ext.alloc _ _)) (OwnS.ext HB7.out (Ext.alloc _ _)) hg8;have HB8:=lh (show OwnS w8 w.heap.size 82 2 B8 (U++[((k:Int),x)]).length d8 (flatS (U++[((k:Int),x)])) by
  rw[HU3.out,flatS_append];exact ho8)
 go_roundw
 case rel=>exact⟨k+1,B8,d8,by go_num,om,by rw[HU2.out,HU3.out],by rw[HU2.out];exact HB8,x8⟩
 case measure=>simp[intOf];omega):P:=h
theorem Y12z3 {P:Prop} (h:P:=by
 clear HSS hf hf2
 go_upto_region 8 with fail
 refine Xr.start [] kr ?_;refine Xtk 0 ?_
 iterate 5(refine Xtn ?_)
 iterate 10(first|refine Xtn ?_|refine Xsn ?_)
 iterate 2(refine Xtn ?_)
 iterate 5(first|refine Xtn ?_|refine Xsn ?_)
 refine Xcl 23 fun w3 hE3 hK3 K hKK=>?_;go_simp;refine(HC w3 hE3).out.mono ?_;rintro e w4 ⟨rfl,x4⟩;refine hKK _ _ x4 ?_;clear hKK;refine ptm ?_;refine Xtk 24 ?_;refine Xdn fun w9 hE9 hK9=>?_;have x9:=(hE3.trans x4).trans hE9;clear jf jd je c2 cd c4d HC
 go_wp2_with fail
 go_ret
 exact⟨B,d,by rw[HL.out];rfl,by rw[HL.out];exact SL.of_ownT (OwnS.ext HB.out x9) (HSG.out _ HL.out.symm),x1.trans x9⟩):P:=h
theorem Y12z8 {P:Prop} (h:P:=by
 go_wp2_with fail
 go_ret
 exact⟨B,d,by rw[HL.out];rfl,by rw[HL.out];exact SL.of_ownT (OwnS.ext HB.out hE9) (HSG.out _ HL.out.symm),x1.trans hE9⟩):P:=h
theorem Y12z4 {P:Prop} (h:P:=by
 have hdv2:dv=false:=by simpa using hdv
 subst hdv2;have HL:=lh (show L=U by rw[HSS.out,if_neg (fun h=>by simp at h)];simp);clear HSS
 go_upto_region 8 with fail
 refine Xr.start [] kr ?_;refine Xtk 0 ?_
 iterate 5(refine Xtn ?_)
 iterate 10(first|refine Xtn ?_|refine Xsn ?_)
 iterate 2(refine Xtn ?_)
 iterate 5(first|refine Xtn ?_|refine Xsn ?_)
 try refine Xsk 23 ?_
 refine Xtk 24 ?_;refine Xdn fun w9 hE9 hK9=>?_;clear jf jd je c2 cd c4d;exact Y12z8):P:=h
theorem Y12z5 {P:Prop} (h:P:=by
 subst hd;have HL:=lh (show L=U by rw[HSS.out];simp);clear HSS
 go_upto_region 8 with fail
 refine Xr.start [] kr ?_;refine Xtk 0 ?_
 iterate 5(refine Xtn ?_)
 iterate 10(first|refine Xtn ?_|refine Xsn ?_)
 iterate 2(refine Xtn ?_)
 iterate 5(first|refine Xtn ?_|refine Xsn ?_)
 try refine Xsk 23 ?_
 refine Xtk 24 ?_;refine Xdn fun w9 hE9 hK9=>?_;clear jf c2;exact Y12z8):P:=h
theorem Y12z6 {P:Prop} (h:P:=by
 have HU2:=lh (show strU m cl fits (k+1)=U by rw[hsu.out,if_neg (fun h=>hf h.2)];simp);clear hsu hf hf2 HC
 go_wp2_with (go_at_fn nf;refine HC2.out.mono ?_;rintro e w5 ⟨rfl,x5⟩)
 go_roundw
 case rel=>exact⟨k+1,B,d,by go_num,om,by rw[HU2.out],by rw[HU2.out];exact lh (OwnS.ext HB.out x5),x1.trans x5⟩
 case measure=>simp[intOf];omega):P:=h
theorem Y12z7 {P:Prop} (h:P:=by
 subst hx;have HU2:=lh (show strU m cl fits (k+1)=U by rw[hsu.out];simp);clear hsu
 go_wp2_with fail
 go_roundw
 case rel=>exact⟨k+1,B,d,by go_num,om,by rw[HU2.out],by rw[HU2.out];exact HB,x1⟩
 case measure=>simp[intOf];omega):P:=h
theorem starts0 (nf:Nat)(fits:Int→Bool)(w:World)(g:Nat)(m:Ma)(nc:Nat)(strt:List Sp)(hM:MachAt w g m nc strt)(ga:Nat)(cl:List Nat)(A1 A2 A3 A4:Option Addr)(c1 c2 c3 c4:Nat)(ha:SmC w m g ga cl A1 A2 A3 A4 c1 c2 c3 c4)(hcl:cl.length≤1000000)(hc:∀c∈cl,c<nc)
 (eg:∀args w,(callFunc nf args).run Tryz.prog w=.ok (.enter nf args) w) (H:∀w',Ext w w'→∀st:Int,-1≤st→st<m.next.length→Calls Tryz.prog nf #[.int .i32 st] w' (RetV (.bool (fits st)) w')) :
 Calls Tryz.prog 83 #[.pointer (some ⟨g,0,none⟩),.pointer (some ⟨ga,0,none⟩),.func (.func nf) #[] #[]] w (RetFnd (startsG m cl fits) w):=by
 obtain⟨iA,jA0,jA1,jA2,jA3⟩:=info_parts infoA2;have HH:=lh H;have HA:=lh ha;have HM:=lh hM;have HSR:=fun(k:Nat)=>stF_rng hM.ok hc k;have hr4:=ha.st.len;have hr5:=ha.en.len;rw[upF_len] at hr4 hr5;obtain⟨hf0,hf1⟩:=hM.ok.first;have HER:=fun(k:Nat) (hk:k≤cl.length)=>enF_rng (m:=m) (cl:=cl) hk;have HSG:=lh (show ∀l,l=startsG m cl fits→∀s∈l,S64 s from fun l hl s hs=>startsG_rng m cl fits hcl s (hl▸hs));have HDL:=lh hM.ok.dl;have HSU:=fun i=>lh (show strU m cl fits (i+1)=strU m cl fits i++(if(enF m cl i≠-1∧fits (stF m cl i)=true) then[((i:Int),enF m cl i)] else[]) from rfl);have HSL:=fun i=>strU_len m cl fits i;have HSS:Hid (startsG m cl fits=strU m cl fits cl.length++(if(m.first≠-1∧m.dn m.first=true∧fits m.first=true) then[((cl.length:Int),(cl.length:Int))] else[])):=lh rfl;generalize startsG m cl fits=L at *;clear H ha hM hc;have q5:w.cell? ⟨ga,5,none⟩=some (.slice A4 cl.length c4):=HA.out.blk.cell 5;go_enter Tryz.func83,Tryz.ntmps83
 go_upto_region 3 with fail
 clear q5;obtain⟨n,hn⟩:∃n,Hid (cl.length=n):=⟨_,lh rfl⟩;rw[hn.out] at hcl hr4 hr5 HER HSS ⊢
 go_loopw [7,15] (fun v7 v15 wr=>∃(k:Nat) (B:Option Addr) (d:Nat),v15=.int .i64 k∧k≤n∧v7=.slice B (strU m cl fits k).length d∧
  Hid (OwnS wr w.heap.size 82 2 B (strU m cl fits k).length d (flatS (strU m cl fits k)))∧Ext w wr) (fun _ v _=>n-(intOf v).toNat)
 case atStart=>exact⟨0,none,0,rfl,om,rfl,lh (OwnS.nil _ _ _ _),Ext.rfl' _⟩
 case round=>
  obtain⟨k,B,d,rfl,hk,rfl,HB,x1⟩:=hrel;have HAr:=lh (HA.out.ext x1);by_cases hlt:k<n
  ·have hkI:(k:Int)<n:=om;have hkl:k<cl.length:=by rw[hn.out];exact hlt
   obtain⟨eb,eo,hA4,e4⟩:=HAr.out.en.getF hkl;obtain⟨sb,so,hA3,e3⟩:=HAr.out.st.getF hkl;have q4:wr.cell? ⟨ga,4,none⟩=some (.slice A3 n c3):=by
    have:=HAr.out.blk.cell 4
    rw[←hn.out];exact this
   rw[hA3] at q4;have hA4':=hA4;subst hA4';have hsu:=HSU k;have hsl:=HSL k;have hsr:=HSR k;have her:=HER k om;generalize enF m cl k=x at *;generalize stF m cl k=st at *;obtain⟨U,hU⟩:∃U,U=strU m cl fits k:=⟨_,rfl⟩
   rw[←hU] at HB hsu hsl ⊢;clear hU hA3 hkl;by_cases hx:x = -1
   ·exact Y12z7
   ·have hxb:(x != -1)=true:=by simpa using hx
    have HC:=lh (HH.out wr x1 st hsr.1 hsr.2);by_cases hf:fits st=true
    ·have HC2:=lh (show Calls Tryz.prog nf #[.int .i32 st] wr (RetV (.bool true) wr) by have h9:=HC.out;rw[hf] at h9;exact h9);exact Y12z2
    ·have hf2:fits st=false:=by simpa using hf
     have HC2:=lh (show Calls Tryz.prog nf #[.int .i32 st] wr (RetV (.bool false) wr) by have h9:=HC.out;rw[hf2] at h9;exact h9);exact Y12z6
  ·have hkI:¬(k:Int)<n:=om;obtain rfl:n=k:=om;obtain⟨U,hU⟩:∃U,U=strU m cl fits n:=⟨_,rfl⟩;have HUL:=HSL n
   rw[←hU] at HB HSS HUL ⊢;clear hU HSU HSL HER HSR;obtain⟨fi,hfi⟩:∃fi,Hid (m.first=fi):=⟨_,lh rfl⟩;rw[hfi.out] at hf0 hf1 HSS;have c2:wr.cell? ⟨g,2,none⟩=some (.int .i32 fi):=by
    have:=(HM.out.at_.ext x1).blk.cell 2
    rw[←hfi.out];exact this
   have jf:=kc0 c2;by_cases hd:fi = -1
   ·exact Y12z5
   ·obtain⟨fn,rfl⟩:∃fn:Nat,fi=fn:=⟨fi.toNat,om⟩;have hfn:fn<m.done.length:=by rw[HDL.out];omega
    obtain⟨db,dd,hdA,cd⟩:=(HM.out.at_.ext x1).dn.get hfn;have c4d:wr.cell? ⟨g,4,none⟩=some (.slice m.dA m.done.length m.dc):=(HM.out.at_.ext x1).blk.cell 4;rw[hdA] at c4d;have hfI:(fn:Int)<m.done.length:=om;have hcd:=(HM.out.at_.ext x1).dn.len;have hDV:m.dn fn=m.done[fn]:=by
     have e:((fn:Int)).toNat=fn:=om;simp[Ma.dn,Go.Proofs.YtmocoldobnimfaaGreat.dmF,e,List.getD_eq_getElem?_getD,hfn]
    rw[hDV] at HSS;clear hDV;generalize m.done[fn]=dv at *;generalize m.done.length=dn at *;clear hdA;have jd:=kc0 c4d;have je:=kc0 cd;by_cases hdv:dv=true
    ·subst hdv;by_cases hf:fits (fn:Int)=true
     ·have HL:=lh (show L=U++[((n:Int),(n:Int))] by rw[HSS.out,if_pos ⟨hd,rfl,hf⟩]);have HC:=fun(w':World) (x:Ext wr w')=>lh (show Calls Tryz.prog nf #[.int .i32 fn] w' (RetV (.bool true) w') by have h9:=HH.out w' (x1.trans x) fn om hf1;rw[hf] at h9;exact h9);exact Y12z1
     ·have hf2:fits (fn:Int)=false:=by simpa using hf
      have HL:=lh (show L=U by rw[HSS.out,if_neg (fun h=>hf h.2.2)];simp);have HC:=fun(w':World) (x:Ext wr w')=>lh (show Calls Tryz.prog nf #[.int .i32 fn] w' (RetV (.bool false) w') by have h9:=HH.out w' (x1.trans x) fn om hf1;rw[hf2] at h9;exact h9);exact Y12z3
    ·exact Y12z4
theorem starts1 (nf:Nat)(z1:Value)(fits:Int→Bool)(w:World)(g:Nat)(m:Ma)(nc:Nat)(strt:List Sp)(hM:MachAt w g m nc strt)(ga:Nat)(cl:List Nat)(A1 A2 A3 A4:Option Addr)(c1 c2 c3 c4:Nat)(ha:SmC w m g ga cl A1 A2 A3 A4 c1 c2 c3 c4)(hcl:cl.length≤1000000)(hc:∀c∈cl,c<nc)
 (eg:∀args w,(callFunc nf args).run Tryz.prog w=.ok (.enter nf args) w) (H:∀w',Ext w w'→∀st:Int,-1≤st→st<m.next.length→Calls Tryz.prog nf #[.int .i32 st,z1] w' (RetV (.bool (fits st)) w')) :
 Calls Tryz.prog 83 #[.pointer (some ⟨g,0,none⟩),.pointer (some ⟨ga,0,none⟩),.func (.func nf) #[] #[z1]] w (RetFnd (startsG m cl fits) w):=by
 obtain⟨iA,jA0,jA1,jA2,jA3⟩:=info_parts infoA2;have HH:=lh H;have HA:=lh ha;have HM:=lh hM;have HSR:=fun(k:Nat)=>stF_rng hM.ok hc k;have hr4:=ha.st.len;have hr5:=ha.en.len;rw[upF_len] at hr4 hr5;obtain⟨hf0,hf1⟩:=hM.ok.first;have HER:=fun(k:Nat) (hk:k≤cl.length)=>enF_rng (m:=m) (cl:=cl) hk;have HSG:=lh (show ∀l,l=startsG m cl fits→∀s∈l,S64 s from fun l hl s hs=>startsG_rng m cl fits hcl s (hl▸hs));have HDL:=lh hM.ok.dl;have HSU:=fun i=>lh (show strU m cl fits (i+1)=strU m cl fits i++(if(enF m cl i≠-1∧fits (stF m cl i)=true) then[((i:Int),enF m cl i)] else[]) from rfl);have HSL:=fun i=>strU_len m cl fits i;have HSS:Hid (startsG m cl fits=strU m cl fits cl.length++(if(m.first≠-1∧m.dn m.first=true∧fits m.first=true) then[((cl.length:Int),(cl.length:Int))] else[])):=lh rfl;generalize startsG m cl fits=L at *;clear H ha hM hc;have q5:w.cell? ⟨ga,5,none⟩=some (.slice A4 cl.length c4):=HA.out.blk.cell 5;go_enter Tryz.func83,Tryz.ntmps83
 go_upto_region 3 with fail
 clear q5;obtain⟨n,hn⟩:∃n,Hid (cl.length=n):=⟨_,lh rfl⟩;rw[hn.out] at hcl hr4 hr5 HER HSS ⊢
 go_loopw [7,15] (fun v7 v15 wr=>∃(k:Nat) (B:Option Addr) (d:Nat),v15=.int .i64 k∧k≤n∧v7=.slice B (strU m cl fits k).length d∧
  Hid (OwnS wr w.heap.size 82 2 B (strU m cl fits k).length d (flatS (strU m cl fits k)))∧Ext w wr) (fun _ v _=>n-(intOf v).toNat)
 case atStart=>exact⟨0,none,0,rfl,om,rfl,lh (OwnS.nil _ _ _ _),Ext.rfl' _⟩
 case round=>
  obtain⟨k,B,d,rfl,hk,rfl,HB,x1⟩:=hrel;have HAr:=lh (HA.out.ext x1);by_cases hlt:k<n
  ·have hkI:(k:Int)<n:=om;have hkl:k<cl.length:=by rw[hn.out];exact hlt
   obtain⟨eb,eo,hA4,e4⟩:=HAr.out.en.getF hkl;obtain⟨sb,so,hA3,e3⟩:=HAr.out.st.getF hkl;have q4:wr.cell? ⟨ga,4,none⟩=some (.slice A3 n c3):=by
    have:=HAr.out.blk.cell 4
    rw[←hn.out];exact this
   rw[hA3] at q4;have hA4':=hA4;subst hA4';have hsu:=HSU k;have hsl:=HSL k;have hsr:=HSR k;have her:=HER k om;generalize enF m cl k=x at *;generalize stF m cl k=st at *;obtain⟨U,hU⟩:∃U,U=strU m cl fits k:=⟨_,rfl⟩
   rw[←hU] at HB hsu hsl ⊢;clear hU hA3 hkl;by_cases hx:x = -1
   ·exact Y12z7
   ·have hxb:(x != -1)=true:=by simpa using hx
    have HC:=lh (HH.out wr x1 st hsr.1 hsr.2);by_cases hf:fits st=true
    ·have HC2:=lh (show Calls Tryz.prog nf #[.int .i32 st,z1] wr (RetV (.bool true) wr) by have h9:=HC.out;rw[hf] at h9;exact h9);exact Y12z2
    ·have hf2:fits st=false:=by simpa using hf
     have HC2:=lh (show Calls Tryz.prog nf #[.int .i32 st,z1] wr (RetV (.bool false) wr) by have h9:=HC.out;rw[hf2] at h9;exact h9);exact Y12z6
  ·have hkI:¬(k:Int)<n:=om;obtain rfl:n=k:=om;obtain⟨U,hU⟩:∃U,U=strU m cl fits n:=⟨_,rfl⟩;have HUL:=HSL n
   rw[←hU] at HB HSS HUL ⊢;clear hU HSU HSL HER HSR;obtain⟨fi,hfi⟩:∃fi,Hid (m.first=fi):=⟨_,lh rfl⟩;rw[hfi.out] at hf0 hf1 HSS;have c2:wr.cell? ⟨g,2,none⟩=some (.int .i32 fi):=by
    have:=(HM.out.at_.ext x1).blk.cell 2
    rw[←hfi.out];exact this
   have jf:=kc0 c2;by_cases hd:fi = -1
   ·exact Y12z5
   ·obtain⟨fn,rfl⟩:∃fn:Nat,fi=fn:=⟨fi.toNat,om⟩;have hfn:fn<m.done.length:=by rw[HDL.out];omega
    obtain⟨db,dd,hdA,cd⟩:=(HM.out.at_.ext x1).dn.get hfn;have c4d:wr.cell? ⟨g,4,none⟩=some (.slice m.dA m.done.length m.dc):=(HM.out.at_.ext x1).blk.cell 4;rw[hdA] at c4d;have hfI:(fn:Int)<m.done.length:=om;have hcd:=(HM.out.at_.ext x1).dn.len;have hDV:m.dn fn=m.done[fn]:=by
     have e:((fn:Int)).toNat=fn:=om;simp[Ma.dn,Go.Proofs.YtmocoldobnimfaaGreat.dmF,e,List.getD_eq_getElem?_getD,hfn]
    rw[hDV] at HSS;clear hDV;generalize m.done[fn]=dv at *;generalize m.done.length=dn at *;clear hdA;have jd:=kc0 c4d;have je:=kc0 cd;by_cases hdv:dv=true
    ·subst hdv;by_cases hf:fits (fn:Int)=true
     ·have HL:=lh (show L=U++[((n:Int),(n:Int))] by rw[HSS.out,if_pos ⟨hd,rfl,hf⟩]);have HC:=fun(w':World) (x:Ext wr w')=>lh (show Calls Tryz.prog nf #[.int .i32 fn,z1] w' (RetV (.bool true) w') by have h9:=HH.out w' (x1.trans x) fn om hf1;rw[hf] at h9;exact h9);exact Y12z1
     ·have hf2:fits (fn:Int)=false:=by simpa using hf
      have HL:=lh (show L=U by rw[HSS.out,if_neg (fun h=>hf h.2.2)];simp);have HC:=fun(w':World) (x:Ext wr w')=>lh (show Calls Tryz.prog nf #[.int .i32 fn,z1] w' (RetV (.bool false) w') by have h9:=HH.out w' (x1.trans x) fn om hf1;rw[hf2] at h9;exact h9);exact Y12z3
    ·exact Y12z4
end
section
open Go.RowKit
attribute [local go_sem ↓] Go.wp_at_zero Go.wp_at_succ
def RetFndE (l:List Sp)(w:World)(e:Ending)(w':World):Prop:=∃(A:Option Addr) (c:Nat),e=.returned (.tuple #[.slice A l.length c,.int .i64 0])∧SL w' A c l∧Ext w w'
def sureF (m:Ma)(st:Int):Bool:=decide (st = -1) || !m.opn.getD st.toNat false
theorem foundX_any (w:World)(g:Nat)(m:Ma)(nc:Nat)(strt:List Sp)(hM:MachAt w g m nc strt)(ga:Nat)(sa:Sm)(cl:List Nat)(ha:SmAt w ga sa)(ka:SumOf m g cl sa)(hcl:cl.length≤1000000)(hc:∀c∈cl,c<nc) :
 Calls Tryz.prog 28 #[.pointer (some ⟨g,0,none⟩),.pointer (some ⟨ga,0,none⟩)] w (RetFndE (startsG m cl (fun _=>true)) w):=by
 have H1:=lh (show Calls Tryz.prog 81 #[.pointer (some ⟨g,0,none⟩),.pointer (some ⟨ga,0,none⟩)] w (RetV (.bool true) w) by
  have h:=owns_any w g ga sa ha _ _ _ _ hM.at_.blk (by rw[ka.mch];exact hM.at_.blk);rw[ka.mch,decide_eq_true rfl] at h;exact h)
 have eg:∀args w,(callFunc 84 args).run Tryz.prog w=.ok (.enter 84 args) w:=enters_of Tryz.func84 kr rfl;have H2:=fun(w':World) (x:Ext w w')=>lh (starts0 84 (fun _=>true) w' g m nc strt (hM.ext x) ga cl _ _ _ _ _ _ _ _ (SmC.of (ha.ext x) ka) hcl hc eg (fun w2 _ st _ _=>foundC_any w2 st));clear hM ha ka hc eg;generalize startsG m cl (fun _=>true)=L at *;go_enter Tryz.func28,Tryz.ntmps28
 go_upto_region 2 with fail
 refine H1.out.mono ?_;rintro e w1 ⟨rfl,x1⟩
 go_upto_region 4 with fail
 refine(H2 w1 x1).out.mono ?_;rintro e w2 ⟨A,c,rfl,hS,x2⟩
 go_wp2_with fail
 go_ret2
 exact⟨A,c,rfl,hS,x1.trans x2⟩
theorem sureX_any (w:World)(g:Nat)(m:Ma)(nc:Nat)(strt:List Sp)(hM:MachAt w g m nc strt)(ga:Nat)(sa:Sm)(cl:List Nat)(ha:SmAt w ga sa)(ka:SumOf m g cl sa)(hcl:cl.length≤1000000)(hc:∀c∈cl,c<nc) :
 Calls Tryz.prog 29 #[.pointer (some ⟨g,0,none⟩),.pointer (some ⟨ga,0,none⟩)] w (RetFndE (startsG m cl (sureF m)) w):=by
 have BB:=Blk.new w 43 #[.pointer (some ⟨g,0,none⟩)];have EX:=Ext.alloc w (.cells #[.pointer (some ⟨g,0,none⟩)] 43);have H1:=lh (show Calls Tryz.prog 81 #[.pointer (some ⟨g,0,none⟩),.pointer (some ⟨ga,0,none⟩)] (w.alloc (.cells #[.pointer (some ⟨g,0,none⟩)] 43)) (RetV (.bool true) (w.alloc (.cells #[.pointer (some ⟨g,0,none⟩)] 43))) by
  have h:=owns_any _ g ga sa (ha.ext EX) _ _ _ _ (hM.ext EX).at_.blk (by rw[ka.mch];exact(hM.ext EX).at_.blk);rw[ka.mch,decide_eq_true rfl] at h;exact h)
 have eg:∀args w,(callFunc 85 args).run Tryz.prog w=.ok (.enter 85 args) w:=enters_of Tryz.func85 kr rfl;have H2:=fun(w':World) (x:Ext (w.alloc (.cells #[.pointer (some ⟨g,0,none⟩)] 43)) w')=>lh (starts1 85 (.pointer (some ⟨w.heap.size,0,none⟩)) (sureF m) w' g m nc strt (hM.ext (EX.trans x)) ga cl _ _ _ _ _ _ _ _ (SmC.of (ha.ext (EX.trans x)) ka) hcl hc eg (fun w2 y st h0 h1=>
  sureC_any w2 w.heap.size g m ((hM.ext (EX.trans x)).ext y).at_ ((BB.ext (x.trans y)).cell 0) st h0 (by rw[hM.ol];exact h1)))
 clear hM ha ka hc eg;generalize startsG m cl (sureF m)=L at *;have b0:=BB.cell 0;clear BB;obtain⟨gb,hgb⟩:∃gb,gb=w.heap.size:=⟨_,rfl⟩
 rw[←hgb] at b0 H2;have HG:=lh hgb;clear hgb;go_enter Tryz.func29,Tryz.ntmps29
 go_upto_region 1 with fail
 rw[←HG.out];generalize w.alloc (.cells #[.pointer (some ⟨g,0,none⟩)] 43)=w0 at *
 go_upto_region 2 with fail
 refine H1.out.mono ?_;rintro e w1 ⟨rfl,x1⟩;have b1:=x1.cell b0
 go_upto_region 4 with fail
 refine(H2 w1 x1).out.mono ?_;rintro e w2 ⟨A,c,rfl,hS,x2⟩
 go_wp2_with fail
 go_ret2
 exact⟨A,c,rfl,hS,(EX.trans x1).trans x2⟩
end
end Go.Proofs.YtmocoldobnimfaaGreat
