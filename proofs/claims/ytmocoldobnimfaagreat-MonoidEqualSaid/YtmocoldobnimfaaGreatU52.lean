/- Texts of this proof: K18. -/
import Derived.Test.YtmocoldobnimfaaGreatU46
set_option linter.all false
set_option maxRecDepth 100000
set_option maxHeartbeats 16000000
namespace Go.Proofs.YtmocoldobnimfaaGreat
section
open Go.RowKit
attribute [local go_sem ↓] Go.wp_at_zero Go.wp_at_succ
theorem q_cells {w:World}{g T:Nat}{a0 a1 a2 a3 a4 a5:Value}(h:Blk w g T #[a0,a1,a2,a3,a4,a5]):w.cell? ⟨g,0,none⟩=some a0∧w.cell? ⟨g,1,none⟩=some a1∧w.cell? ⟨g,2,none⟩=some a2∧w.cell? ⟨g,3,none⟩=some a3∧w.cell? ⟨g,4,none⟩=some a4∧w.cell? ⟨g,5,none⟩=some a5:=
 ⟨h.cell 0,h.cell 1,h.cell 2,h.cell 3,h.cell 4,h.cell 5⟩
theorem K18z1 {P:Prop} (h:P:=by
 go_wp2_with fail
 go_roundw
 case rel=>exact⟨k+1,by go_num,om,by rw[HST2.out],HBs,HXs⟩
 case measure=>simp[intOf];omega):P:=h
theorem qNew_any (w:World)(gA:Option Addr)(gc:Nat)(hs:List Hin)(runes:Bool)(caps:Int)(hP:PL w gA gc hs)(hS:SmallG (insL hs)) :
 Calls Tryz.prog 22 #[progV gA hs.length gc caps runes] w (RetQN runes caps (insL hs) gA hs.length gc w):=by
 have hgl:=hP.len;have HP:=lh hP;have HS:=lh hS;have EB:=Ext.alloc w (.cells #[.slice gA hs.length gc,.int .i64 caps,.bool runes] 33);have BB:=Blk.new w 33 #[.slice gA hs.length gc,.int .i64 caps,.bool runes];clear hP hS;unfold progV;go_enter Tryz.func22,Tryz.ntmps22
 go_upto_region 1 with fail
 obtain⟨gq,hgq⟩:∃q,q=w.heap.size:=⟨_,rfl⟩
 rw[←hgq] at BB ⊢;have hgqr:w.heap.size≤gq:=om;generalize hwa:w.alloc (.cells #[.slice gA hs.length gc,.int .i64 caps,.bool runes] 33)=wa at *;have hsa:wa.heap.size=gq+1:=by rw[←hwa];simp;omega
 have EC:=Ext.alloc wa (.cells #[.slice none 0 0,.int .i64 0,.bool false,.slice none 0 0,.slice none 0 0,.slice none 0 0] 53);have BR:=Blk.new wa 53 #[.slice none 0 0,.int .i64 0,.bool false,.slice none 0 0,.slice none 0 0,.slice none 0 0]
 rw[←hsa];obtain⟨gr,hgr⟩:∃q,q=wa.heap.size:=⟨_,rfl⟩
 rw[←hgr] at BR ⊢;have hgrr:w.heap.size≤gr:=om;generalize wa.alloc (.cells #[.slice none 0 0,.int .i64 0,.bool false,.slice none 0 0,.slice none 0 0,.slice none 0 0] 53)=wb at *;have X0:=EB.trans EC;have HBQ:=lh (BB.ext EC);have HBR:=lh BR;clear EB EC BB BR hsa hwa hgq hgr;have q0:wb.cell? ⟨gq,0,none⟩=some (.slice gA hs.length gc):=HBQ.out.cell 0;have q1:wb.cell? ⟨gq,1,none⟩=some (.int .i64 caps):=HBQ.out.cell 1;have q2:wb.cell? ⟨gq,2,none⟩=some (.bool runes):=HBQ.out.cell 2;have HV:=lh (check12_any gA gc hs runes caps wb (HP.out.ext X0));unfold progV at HV;obtain⟨E0,hE0⟩:∃E0,Hid (chkE runes caps (insL hs)=E0):=⟨_,lh rfl⟩;rw[hE0.out] at HV;by_cases h0:E0=0
 ·subst h0;have HG:=lh (chkE_zero hE0.out);have h8:hs.length≤8192:=by have:=HG.out.len;rw[insL_len] at this;omega
  go_upto_region 4 with(go_at_call 74;refine HV.out.mono ?_;rintro e w2 ⟨rfl,x2⟩)
  have X2:=X0.trans x2;have HB2:=lh (HBQ.out.ext x2);have HR2:=lh (HBR.out.ext x2);have hw2:=X2.size;clear q0 q1 q2 HV x2 HBQ HBR X0
  go_upto_region 6 with fail
  go_loopw [5,6] (fun v5 v6 wr=>∃(i:Nat) (A:Option Addr) (c:Nat),v6=.int .i64 i∧i≤hs.length∧v5=.slice A (setH hs i).length c∧Hid (OwnS wr w.heap.size 23 1 A (setH hs i).length c (flatH (setH hs i)))∧Hid (Ext w wr)∧Hid (Blk wr gq 33 #[.slice gA hs.length gc,.int .i64 caps,.bool runes])∧Hid (Blk wr gr 53 #[.slice none 0 0,.int .i64 0,.bool false,.slice none 0 0,.slice none 0 0,.slice none 0 0])) (fun _ v _=>hs.length-(intOf v).toNat)
  case atStart=>exact⟨0,none,0,rfl,om,rfl,lh (OwnS.nil _ _ _ _),lh X2,HB2,HR2⟩
  case round=>
   obtain⟨i,A,c,rfl,hi,rfl,HO,HX,HB,HR⟩:=hrel;clear HB2 HR2 X2;obtain⟨wm,hwm⟩:∃x,x=wr:=⟨_,rfl⟩;subst hwm;have q0:wm.cell? ⟨gq,0,none⟩=some (.slice gA hs.length gc):=HB.out.cell 0;by_cases hlt:i<hs.length
   ·have hiI:(i:Int)<hs.length:=om;obtain⟨pb,po,hgA,c0,c1,c2,c3,c4⟩:=(HP.out.ext HX.out).get hlt;have hgA':=hgA;subst hgA';have HSU:=lh (setH_succ hlt);have hsl:=setH_len hs i;generalize hs[i]=hh at *;obtain⟨op,zx,zy,zn,hA,hc,hl⟩:=hh
    simp only at c0 c1 c2 c3 c4 HSU
    clear c1 c2 c3;by_cases h1:op=1
    ·subst h1;obtain⟨iS,jS0,jS1,jS2,jS3⟩:=info_parts infoSl;have hsu:=HSU.out;rw[if_pos rfl] at hsu;have HSU2:=lh hsu;clear hsu;have hwi:=HX.out.size;have EP2:=Ext.alloc wm (.cells #[.slice hA hl.length hc] 23);have HAPP:=fun(w8:World) (A8:Option Addr) (hg:(wm.alloc (.cells #[.slice hA hl.length hc] 23)).grownBy w8 (A.map (·.block)))=>lh (show Ext w w8∧Blk w8 gq 33 #[.slice (some ⟨pb,po,none⟩) hs.length gc,.int .i64 caps,.bool runes]∧Blk w8 gr 53 #[.slice none 0 0,.int .i64 0,.bool false,.slice none 0 0,.slice none 0 0,.slice none 0 0] from⟨(HX.out.trans EP2).kp (KpP.of_grown hg) (fun i hi=>OwnS.row HO.out i hi),(KpP.of_grown hg).blk (HB.out.ext EP2) (own_blk (OwnS.ext HO.out EP2) (HB.out.ext EP2) de),(KpP.of_grown hg).blk (HR.out.ext EP2) (own_blk (OwnS.ext HO.out EP2) (HR.out.ext EP2) de)⟩)
     go_wp2_with (at_builtin;refine wpList_app _ rfl _ _ _ rfl w.heap.size 23 iS (.slice none 0 0) 1 24 Tryz.underlying125 jS0 jS1 jS2 jS3 rfl om A (setH hs i).length c (flatH (setH hs i)) rfl (OwnS.ext HO.out (Ext.alloc _ _)) _ 1 1 [.slice hA hl.length hc] rfl rfl (blk_cells (Blk.new _ _ _)) (by intro u hu;simp only[List.mem_cons,List.not_mem_nil,or_false] at hu;rcases hu with rfl;rfl) um om (Nat.le_trans hwi (Ext.alloc _ _).size) ?_;intro A8 c8 w8 ho8 hg8 hat8)
     have HX8:=lh (HAPP w8 A8 hg8).out.1;have HB8:=lh (HAPP w8 A8 hg8).out.2.1;have HR8:=lh (HAPP w8 A8 hg8).out.2.2;have e1:(setH hs i++[(⟨hA,hc,hl⟩:Hs)]).length=(setH hs i).length+1:=by simp
     have HO8:Hid (OwnS w8 w.heap.size 23 1 A8 (setH hs (i+1)).length c8 (flatH (setH hs (i+1)))):=lh (by
      rw[HSU2.out,e1];have e2:flatH (setH hs i++[(⟨hA,hc,hl⟩:Hs)])=flatH (setH hs i)++[.slice hA hl.length hc]:=by simp[flatH]
      rw[e2];exact ho8)
     have e3:(setH hs (i+1)).length=(setH hs i).length+1:=by rw[HSU2.out,e1]
     have HE3:=lh e3;clear e1 e3 ho8 hg8 hat8 HAPP EP2;go_roundw
     case rel=>exact⟨i+1,A8,c8,by go_num,om,by rw[HE3.out],HO8,HX8,HB8,HR8⟩
     case measure=>simp[intOf];omega
    ·have h1f:(op == 1)=false:=by simp[h1]
     have hsu:=HSU.out;rw[if_neg h1] at hsu;have HSU2:=lh hsu;clear hsu
     go_wp2_with fail
     go_roundw
     case rel=>exact⟨i+1,A,c,by go_num,om,by rw[HSU2.out],by rw[HSU2.out];exact HO,HX,HB,HR⟩
     case measure=>simp[intOf];omega
   ·have hiI:¬(i:Int)<hs.length:=om;obtain rfl:hs.length=i:=om;have hck:=hE0.out;have HSA:=lh (setH_all hs);have hsl:=setH_len hs hs.length;have HSW:=lh (show LLS wm A c (setH hs hs.length) from LLS.of_own HO.out (fun z hz=>by
     obtain⟨y,hy,rfl⟩:=setH_mem hz;exact(HP.out.sl y hy).ext HX.out))
    obtain⟨LS,hLS⟩:∃LS,Hid (setH hs hs.length=LS):=⟨_,lh rfl⟩;rw[hLS.out] at HSA HSW hsl ⊢;have hl1:LS.length≤1024:=by
     have h:=HS.out.sets
     rw[←HSA.out,List.length_map] at h;exact h
    have q2:wm.cell? ⟨gq,2,none⟩=some (.bool runes):=HB.out.cell 2;have HSP:=lh (gSplitN_any A c LS (topV runes) wm HSW.out (by have:=topV_rng runes;unfold I64;omega) hl1 (by rw[HSA.out];exact HS.out.flat) (by rw[HSA.out];exact HS.out.ends _));rw[HSA.out] at HSP;obtain⟨SE,hSE⟩:∃SE,Hid (splitE (setsOf (insL hs)) (topV runes)=SE):=⟨_,lh rfl⟩;clear hck HO
    go_upto_if 53 with fail
    clear q0
    go_cut [7] from 54 to 54 (fun v7 wx=>v7=.int .i64 (topV runes)∧wx=wm)
    case first=>
     by_cases hr:runes=true
     ·subst hr
      go_wp2_with fail
      go_meet
      exact⟨rfl,rfl⟩
     ·have hr2:runes=false:=by simpa using hr
      subst hr2
      go_wp2_with fail
      go_meet
      exact⟨rfl,rfl⟩
    case rest=>
     obtain⟨rfl,hwc⟩:=hcut;subst hwc;clear q2
     go_upto_region 14 with(go_at_call 75;refine HSP.out.mono ?_;rintro e w4 ⟨O,cO,ks,rfl,hL4,hk4,x4⟩)
     rw[hSE.out] at hk4 ⊢;have HX4:=lh (HX.out.trans x4);have HB4:=lh (HB.out.ext x4);have HR4:=lh (HR.out.ext x4);clear HX HB HR HSP HSW x4;by_cases hs0:SE=0
     ·subst hs0;rw[if_pos rfl] at hk4;have hks:ks.length≤1000:=by
       have h:=classes_len HS.out (topV runes)
       rw[←hk4,List.length_map] at h;exact h
      have q0:=HB4.out.cell 0;have q1:=HB4.out.cell 1;have q2:=HB4.out.cell 2
      go_upto_region 17 with fail
      have BM:=Blk.new w4 53 (qC gA hs.length gc caps runes none 0 0 none 0 0 none 0 0);have EM:=Ext.alloc w4 (.cells (qC gA hs.length gc caps runes none 0 0 none 0 0 none 0 0) 53);obtain⟨g,hg⟩:∃q,q=w4.heap.size:=⟨_,rfl⟩
      rw[←hg] at BM ⊢;change Code.wp _ _ _ _ (w4.alloc (.cells (qC gA hs.length gc caps runes none 0 0 none 0 0 none 0 0) 53));generalize w4.alloc (.cells (qC gA hs.length gc caps runes none 0 0 none 0 0 none 0 0) 53)=w5 at *;have HQ5:Hid (QY w5 w4.heap.size g gA hs.length gc caps runes none 0 (syU runes (ks.map (·.l)) 0)):=lh ⟨by rw[syU_zero];exact BM,OwnS.nil _ _ _ _,by rw[syU_zero];simp⟩;have HXM:=lh EM;have HL4:=lh hL4;have HK4:=lh hk4;have hgg:w4.heap.size≤g:=om;have hOl:=hL4.len;clear EM BM hg hL4 hk4 q0 q1 q2
      go_upto_region 18 with fail
      go_loopw [11] (fun v11 wr=>∃(i:Nat) (A:Option Addr) (c:Nat),v11=.int .i64 i∧i≤ks.length∧Hid (QY wr w4.heap.size g gA hs.length gc caps runes A c (syU runes (ks.map (·.l)) i))∧Hid (Ext w4 wr)) (fun v _=>ks.length-(intOf v).toNat)
      case atStart=>exact⟨0,none,0,rfl,om,HQ5,HXM⟩
      case round=>
       obtain⟨i,YA,yc,rfl,hi,HQ,HX⟩:=hrel;clear HQ5 HXM;obtain⟨wm,hwm⟩:∃x,x=wr:=⟨_,rfl⟩;subst hwm;by_cases hlt:i<ks.length
       ·have hiI:(i:Int)<ks.length:=om;obtain⟨ob,oo,hOA,z0⟩:=(HL4.out.ext HX.out).get hlt;have hOA':=hOA;subst hOA';have HSLi:=lh ((HL4.out.sl _ (List.getElem_mem hlt)).ext HX.out);have HYES:=lh (show(endsL ks[i].l).any (symV runes)=true→syU runes (ks.map (·.l)) (i+1)=syU runes (ks.map (·.l)) i++[lastV runes (endsL ks[i].l)] from fun hv=>by
         have h:=syU_yes (cl:=ks.map (·.l)) (i:=i) (by simpa using hlt) (by simpa using hv)
         simpa using h)
        have HNO:=lh (show(endsL ks[i].l).any (symV runes)=false→syU runes (ks.map (·.l)) (i+1)=syU runes (ks.map (·.l)) i from fun hv=>syU_no (cl:=ks.map (·.l)) (i:=i) (by simpa using hlt) (by simpa using hv));have hsy:=syU_len runes (ks.map (·.l)) i;generalize ks[i]=kk at *;obtain⟨kA,kc,kl⟩:=kk
        simp only at z0 HSLi HYES HNO
        have hkl:=HSLi.out.len
        go_upto_region 22 with fail
        go_loopw [12,13] (fun v12 v13 wi=>∃(j:Nat),v13=.int .i64 j∧j≤kl.length∧v12=.int .i64 (lastV runes (endsU kl j))∧Hid (Ext wm wi)) (fun _ v _=>kl.length-(intOf v).toNat)
        case atStart=>exact⟨0,rfl,om,rfl,lh (Ext.rfl' _)⟩
        case round=>
         obtain⟨j,rfl,hj,rfl,HXi⟩:=hrel;have z1:=HXi.out.cell z0;by_cases hlt2:j<kl.length
         ·have hjI:(j:Int)<kl.length:=om;obtain⟨sb,so,hkA,s0,s1⟩:=(HSLi.out.ext HXi.out).get hlt2;have hkA':=hkA;subst hkA';have HEU:=lh (endsU_succ hlt2);have hs64:=HSLi.out.wf hlt2;generalize kl[j]=sp at *;obtain⟨lo,hi2⟩:=sp
          simp only at s0 s1 HEU
          go_upto_region 24 with fail
          have j0:=kc0 z1;have j1:=kc0 s0;have j2:=kc0 s1;refine Xr.start [] kr ?_;refine Xtk 0 ?_
          iterate 15(refine Xtn ?_)
          refine Xcl 16 fun w6 hE6 hK6 K hKK=>?_;have EA:=Ext.alloc w6 (.cells #[.int .i64 lo,.int .i64 hi2] 3);have BA:=Blk.new w6 3 #[.int .i64 lo,.int .i64 hi2];go_simp;refine hKK _ _ EA ?_;clear hKK;obtain⟨gB,hgB⟩:∃q,q=w6.heap.size:=⟨_,rfl⟩
          rw[←hgB] at BA ⊢;clear hgB;generalize w6.alloc (.cells #[.int .i64 lo,.int .i64 hi2] 3)=w7 at *;refine ptm ?_;refine Xtk 17 ?_;refine Xdn fun w8 hE8 hK8=>?_;have HX8:=lh (((HXi.out.trans hE6).trans EA).trans hE8);have HBA:=lh (BA.ext hE8);clear j0 j1 j2 s0 s1 z1 hE6 hK6 hE8 hK8 EA BA HXi
          go_upto_region 26 with fail
          go_loopw [12,15] (fun v12 v15 wj=>∃(k:Nat),v15=.int .i64 k∧k≤2∧v12=.int .i64 (lastV runes (endsU kl j++[lo,hi2].take k))∧Hid (Blk wj gB 3 #[.int .i64 lo,.int .i64 hi2])∧Hid (Ext wm wj)) (fun _ v _=>2-(intOf v).toNat)
          case atStart=>exact⟨0,rfl,om,by rw[List.take_zero,List.append_nil],HBA,HX8⟩
          case round=>
           obtain⟨k,rfl,hk,rfl,HBj,HXj⟩:=hrel;by_cases hlt3:k<2
           ·have hkI:(k:Int)<2:=om;obtain⟨x,hx⟩:∃x,Hid ([lo,hi2][k]'hlt3=x):=⟨_,lh rfl⟩;have ck:wr.cell? ⟨gB,k,none⟩=some (.int .i64 x):=by
             rw[←hx.out];rcases(show k=0∨k=1 by omega) with e|e
             ·subst e;exact HBj.out.cell 0
             ·subst e;exact HBj.out.cell 1
            have HST:=lh (show lastV runes (endsU kl j++[lo,hi2].take (k+1))=if symV runes x=true then x else lastV runes (endsU kl j++[lo,hi2].take k) by
             rw[List.take_succ_eq_append_getElem hlt3,←List.append_assoc,lastV_snoc,hx.out])
            have q2:wr.cell? ⟨gq,2,none⟩=some (.bool runes):=(HB4.out.ext (HX.out.trans HXj.out)).cell 2;generalize lastV runes (endsU kl j++[lo,hi2].take k)=y at *;have HSY:=fun(w':World)=>lh (r4sym_any x runes w')
            go_upto_region 28 with fail
            have j0:=kc0 ck;have j1:=kc0 q2;refine Xr.start [] kr ?_;refine Xtk 0 ?_
            iterate 5(refine Xtn ?_)
            refine Xcl 6 fun wp hEp hKp K hKK=>?_;go_simp;refine(HSY wp).out.mono ?_;rintro e wq ⟨rfl,xq⟩;refine hKK _ _ xq ?_;clear hKK;refine ptm ?_;refine Xdn fun ws hEs hKs=>?_;have xs3:=(hEp.trans xq).trans hEs;have HXs:=lh (HXj.out.trans xs3);have HBs:=lh (HBj.out.ext xs3);have cs:=xs3.cell ck;clear j0 j1 q2 ck hEp hKp xq hEs hKs xs3 HBj HXj HSY;by_cases hv:symV runes x=true
            ·rw[hv];have hst:=HST.out;rw[if_pos hv] at hst;have HST2:=lh hst;clear hst HST;exact K18z1
            ·have hst:=HST.out;rw[if_neg hv] at hst;have HST2:=lh hst;clear hst HST;have hv2:symV runes x=false:=by simpa using hv
             rw[hv2];exact K18z1
           ·have hkI:¬(k:Int)<2:=om;obtain rfl:2=k:=om;have e:endsU kl j++[lo,hi2].take 2=endsU kl (j+1):=by rw[HEU.out];simp
            rw[e];clear e
            go_wp2_with fail
            go_roundw
            case rel=>exact⟨j+1,by go_num,om,rfl,HXj⟩
            case measure=>simp[intOf];omega
         ·have hjI:¬(j:Int)<kl.length:=om;obtain rfl:kl.length=j:=om;rw[endsU_all];by_cases hv:(endsL kl).any (symV runes)=true
          ·have hy:=symV_pos (smpR_in hv).2
           rw[←lastV_any hv] at hy;have HY2:=lh (HYES.out hv);have HQ2:=lh (HQ.out.ext HXi.out);have HX2:=lh (HX.out.trans HXi.out);generalize lastV runes (endsL kl)=y at *;have hy0:0≤y:=hy.1;have HYI:=lh (show I64 y by unfold I64;omega);generalize syU runes (ks.map (·.l)) i=ys at *;have hyl:ys.length≤1000:=om;have c4:wr.cell? ⟨g,4,none⟩=some (.slice YA ys.length yc):=HQ2.out.blk.cell 4;have HBL:=fun(w8:World) (hg:wr.grownBy w8 (YA.map (·.block)))=>(KpP.of_grown hg).blk HQ2.out.blk (own_blk HQ2.out.own HQ2.out.blk de);clear hv HYES HNO HQ HX HXi
           go_wp2_with (at_builtin;refine wpList_app1I (w1:=wr) rfl _ _ _ rfl 3 infoNk Tryz.underlying22 w4 HX2.out y rfl YA yc ys rfl HQ2.out.own rfl om (ys++[y]) rfl ?_;intro A8 c8 w8 ho8 hx8 hg8 hat8;have cl8:=(HBL w8 hg8).cell 4;have fl8:=(HBL w8 hg8).frz 4)
           have HQ8:=lh (HQ2.out.push HYI.out (A8:=A8) (c8:=c8) (v:=.slice A8 (ys.length+1) c8) si hg8 ho8);have HX8:=lh ((hx8.kp (KpP.set (p:=(·=g)) (x:=⟨g,4,none⟩) (KpP.refl _ _) (.inl rfl) (.slice A8 (ys.length+1) c8)) (fun i hi=>by have e:i=g:=hi;omega)));go_roundw
           case rel=>exact⟨i+1,A8,c8,by go_num,om,by rw[HY2.out];exact HQ8,HX8⟩
           case measure=>simp[intOf];omega
          ·have hv2:(endsL kl).any (symV runes)=false:=by simpa using hv
           rw[lastV_no hv2];have HN2:=lh (HNO.out hv2);have HQ2:=lh (HQ.out.ext HXi.out);have HX2:=lh (HX.out.trans HXi.out);clear hv hv2 HYES HNO
           go_wp2_with fail
           go_roundw
           case rel=>exact⟨i+1,YA,yc,by go_num,om,by rw[HN2.out];exact HQ2,HX2⟩
           case measure=>simp[intOf];omega
       ·have hiI:¬(i:Int)<ks.length:=om;obtain rfl:ks.length=i:=om;have e:syU runes (ks.map (·.l)) ks.length=symsR runes (insL hs):=by
         unfold syU;rw[show(ks.map (·.l)).take ks.length=ks.map (·.l) from List.take_of_length_le si,HK4.out]
         rfl
        have hyl:=syU_len runes (ks.map (·.l)) ks.length;rw[e] at HQ hyl;obtain⟨ys,hys⟩:∃ys,Hid (symsR runes (insL hs)=ys):=⟨_,lh rfl⟩;rw[hys.out] at HQ hyl;clear e;have q0:wm.cell? ⟨gq,0,none⟩=some (.slice gA hs.length gc):=(HB4.out.ext HX.out).cell 0;have q1:wm.cell? ⟨gq,1,none⟩=some (.int .i64 caps):=(HB4.out.ext HX.out).cell 1;have q2:wm.cell? ⟨gq,2,none⟩=some (.bool runes):=(HB4.out.ext HX.out).cell 2;have EZ:=Ext.alloc wm (.cells #[.int .i64 0] 3);have HIZ:IL (wm.alloc (.cells #[.int .i64 0] 3)) (some ⟨wm.heap.size,0,none⟩) 1 (castL [0]):=IL.one (Blk.new wm 3 #[.int .i64 0]) (show I64 0 from by unfold I64;decide);have HSA2:=lh (state_any gA gc hs runes caps HG.out _ (HP.out.ext ((HX4.out.trans HX.out).trans EZ)) (some ⟨wm.heap.size,0,none⟩) 1 [0] HIZ (fun q hq=>by
         have:q=0:=by simpa using hq
         have h:=HG.out.len;rw[insL_len] at h;omega))
        unfold progV at HSA2
        go_upto_region 33 with(go_at_call 40;refine HSA2.out.mono ?_;rintro e wS ⟨TA,tc,rfl,hTI,xS,fT⟩)
        have xmS:=EZ.trans xS;have HXS:=lh (HX.out.trans xmS);have HQS:=lh (HQ.out.ext xmS);have HTI:=lh hTI;have hTf:∀b,TA.map (·.block)=some b→wm.heap.size≤b:=fun b hb=>Nat.le_trans EZ.size (fT b hb);have HTF:=lh hTf;have hgS:g<wm.heap.size:=HQ.out.blk.lt;have hTlen:=hTI.len;clear q0 q1 q2 EZ HIZ HSA2 hTI xS fT xmS hTf HQ HX;have HQ0:Hid (QS wS wS.heap.size g gA hs.length gc caps runes none 0 [] YA ys.length yc):=lh ⟨HQS.out.blk,SZ.nil _ _,by simp⟩;have HIY:=lh (IL.of_own HQS.out.own HQS.out.rng);have HYN:=lh (show ∀b,YA.map (·.block)=some b→b≠g from fun b hb e=>own_blk HQS.out.own HQS.out.blk de (e▸hb));have HYW:=lh (show ∀b,YA.map (·.block)=some b→w4.heap.size≤b from fun b hb=>OwnS.row HQS.out.own b hb);obtain⟨t,ht⟩:∃t,Hid (stateG (insL hs) [0]=t):=⟨_,lh rfl⟩;rw[ht.out] at HTI hTlen ⊢;have hgr4:gr<w4.heap.size:=HR4.out.lt;obtain⟨iL,jL0,jL1,jL2,jL3⟩:=info_parts infoLk;clear HQS
        go_upto_if 126 with fail
        go_cut [16] from 126 to 132 (fun v16 wx=>v16=.slice TA (castL t).length tc∧∃(SA:Option Addr) (sc:Nat) (xs:List Hl),Hid (stsOf xs=grow [] t)∧Hid (QS wx wS.heap.size g gA hs.length gc caps runes SA sc xs YA ys.length yc)∧Hid (KpP (·=g) wS wx))
        case first=>
         by_cases h0:t=[]
         ·have h0I:¬(0:Int)<(castL t).length:=by rw[h0];simp[castL]
          have HE:=lh (show stsOf []=grow [] t by rw[h0];rfl);clear h0
          go_wp2_with fail
          go_meet
          exact⟨rfl,none,0,[],HE,HQ0,lh (KpP.refl _ _)⟩
         ·have h0I:(0:Int)<(castL t).length:=by
           rw[castL_len];have:=List.length_pos_iff.2 h0;omega
          have HE:=lh (show stsOf [(⟨TA,tc,t⟩:Hl)]=grow [] t by unfold grow stsOf;simp[h0]);clear h0;have c3:wS.cell? ⟨g,3,none⟩=some (.slice none 0 0):=HQ0.out.blk.cell 3;have EP:=Ext.alloc wS (.cells #[.slice TA (castL t).length tc] 22);have HBL:=fun(w8:World) (hg:(wS.alloc (.cells #[.slice TA (castL t).length tc] 22)).grownBy w8 none)=>(KpP.of_grown (A:=none) hg).blk (HQ0.out.blk.ext EP) si
          go_wp2_with (at_builtin;refine wpList_app _ rfl _ _ _ rfl wS.heap.size 22 iL (.slice none 0 0) 1 24 Tryz.underlying50 jL0 jL1 jL2 jL3 rfl om none 0 0 (flatL []) rfl (OwnS.nil _ _ _ _) _ 1 1 [.slice TA (castL t).length tc] rfl rfl (blk_cells (Blk.new _ _ _)) (by intro u hu;obtain rfl:=List.mem_singleton.1 hu;rfl) um om (Ext.alloc _ _).size ?_;intro A8 c8 w8 ho8 hg8 hat8;have cl8:=(HBL w8 hg8).cell 3;have fl8:=(HBL w8 hg8).frz 3)
          have HQ8:=lh (HQ0.out.push (z:=⟨TA,tc,t⟩) HTI.out (fun _ _ _=>by simp) (fun _ b hb=>by have:=HTF.out b hb;omega) (A8:=A8) (c8:=c8) (v:=.slice A8 1 c8) rfl ho8 hg8 hat8);have K8:KpP (·=g) wS (w8.setCell ⟨g,3,none⟩ (.slice A8 1 c8)):=KpP.set (p:=(·=g)) (x:=⟨g,3,none⟩) (KpP.of_ext (EP.kp (KpP.of_grown (A:=none) hg8) (fun i hi=>by simp at hi))) (.inl rfl) _
          go_meet
          exact⟨rfl,A8,c8,[⟨TA,tc,t⟩],HE,HQ8,lh K8⟩
        case rest=>
         obtain⟨rfl,SA,sc,xs,HX0,HQX,HKX⟩:=hcut;clear HQ0 HTI HTF hTlen;obtain⟨RES,hRES⟩:∃RES,Hid (stsG (insL hs) ys=RES):=⟨_,lh rfl⟩;have HRI:Hid (RfI (insL hs) ys RES (stsOf xs) 0):=lh (by rw[HX0.out,←ht.out,←hRES.out];exact RfI.start _ _);have HNX:=fun(w:World) (hP:PL w gA gc hs) A c l hL hl hll x=>lh (next_any gA gc hs runes caps HG.out w hP A c l hL hl hll x);have HPLC:=fun(A:Option Addr) (c:Nat) (hl:List Hl) (S:Option Addr) (sc:Nat) (s:List Nat) (w:World) (hL:LN w A c hl) (hS:IL w S sc (castL s))=>lh (place_any gA hs.length gc caps runes A c hl YA ys.length yc none 0 0 S sc s w hL hS);unfold progV at HNX;unfold mchV at HPLC;have hyl2:ys.length≤1000:=om;have hgw:w4.heap.size≤wS.heap.size:=HXS.out.size;have hw4:w.heap.size≤w4.heap.size:=HX4.out.size
         go_upto_region 36 with fail
         go_loopw [17] (fun v17 wr=>∃(i:Nat) (SA:Option Addr) (sc:Nat) (xs:List Hl),v17=.int .i64 i∧Hid (RfI (insL hs) ys RES (stsOf xs) i)∧Hid (QS wr wS.heap.size g gA hs.length gc caps runes SA sc xs YA ys.length yc)∧Hid (KpP (·=g) wS wr)) (fun v _=>1030-(intOf v).toNat)
         case atStart=>exact⟨0,SA,sc,xs,rfl,HRI,HQX,HKX⟩
         case round=>
          clear HRI HQX HKX HX0;obtain⟨i,SA,sc,xs,rfl,HRI,HQX,HKX⟩:=hrel;have hil:=HRI.out.il;have hxl:=HRI.out.len;rw[stsOf_len] at hil hxl;have c3:wr.cell? ⟨g,3,none⟩=some (.slice SA xs.length sc):=HQX.out.blk.cell 3;by_cases hlt:i<xs.length
          ·have hiI:(i:Int)<xs.length:=om;by_cases ho:1024<xs.length
           ·have hoI:(1024:Int)<xs.length:=om;have hn:=HRI.out.over (by rw[stsOf_len];exact ho);have hc:newE runes caps (insL hs)=4:=by
             unfold newE;rw[hE0.out,hSE.out,stsG_alike HG.out,hys.out,hRES.out,hn]
             simp
            have HC:=lh hc;have HRr:=lh (HKX.out.blk (HR4.out.ext HXS.out) om);have HXr:Hid (Ext w wr):=lh ((HX4.out.trans HXS.out).kp HKX.out (fun i hi=>by have e:i=g:=hi;omega));clear hc hn;obtain⟨f0,f1,f2,f3,f4,f5⟩:=q_frz HRr.out;obtain⟨r0,r1,r2,r3,r4,r5⟩:=q_cells HRr.out
            go_wp2_with fail
            have xz:=setQ_ext (gA:=none) (n:=0) (gc:=0) (caps:=0) (runes:=false) (SA:=none) (sn:=0) (sc:=0) (YA:=none) (yn:=0) (yc:=0) (OA:=none) (on:=0) (oc:=0) HXr.out hgrr;have HZ:=setQ_blk (gA:=none) (n:=0) (gc:=0) (caps:=0) (runes:=false) (SA:=none) (sn:=0) (sc:=0) (YA:=none) (yn:=0) (yc:=0) (OA:=none) (on:=0) (oc:=0) HRr.out;change bodyPost _ _ _ _ _ (setQ wr gr none 0 0 0 false none 0 0 none 0 0 none 0 0);generalize setQ wr gr none 0 0 0 false none 0 0 none 0 0 none 0 0=wz at *;obtain⟨z0,z1,z2,z3,z4,z5⟩:=qC_cells HZ;exact bodyPost_ret (v:=.tuple #[mchV none 0 0 0 false none 0 0 none 0 0 none 0 0,.int .i64 4]) (by simp[results,Tryz.results22,go_sem,z0,z1,z2,z3,z4,z5,mchV]) rfl ⟨xz,.inl ⟨by rw[HC.out];decide,by rw[HC.out]⟩⟩
           ·have hoI:¬(1024:Int)<xs.length:=om;have HSTP:=lh (HRI.out.step (by rw[stsOf_len];exact hlt) (by rw[stsOf_len];exact ho));have HLT:=lh (HRI.out.lt _ (List.getElem_mem (show i<(stsOf xs).length by rw[stsOf_len];exact hlt)));have HM0:=lh (show stsOf xs=midL (insL hs) ys (stsOf xs) ((stsOf xs)[i]'(by rw[stsOf_len];exact hlt)) 0 from(midL_zero _ _ _ _).symm);have hiL:i<(stsOf xs).length:=by rw[stsOf_len];exact hlt
            have hLl:(stsOf xs).length≤1024:=by rw[stsOf_len];omega
            have HGI:=lh (show(stsOf xs)[i]? = some ((stsOf xs)[i]'hiL) from List.getElem?_eq_getElem hiL);generalize (stsOf xs)[i]'hiL=l0 at *;obtain⟨L0,hL0⟩:∃L0,Hid (stsOf xs=L0):=⟨_,lh rfl⟩;rw[hL0.out] at HSTP HGI hLl hiL;have HM1:Hid (stsOf xs=midL (insL hs) ys L0 l0 0):=lh (by rw[midL_zero];exact hL0.out);clear HM0 hL0;rw[insL_len] at HLT
            go_upto_region 41 with fail
            go_loopw [18] (fun v18 wi=>∃(k:Nat) (SA:Option Addr) (sc:Nat) (xs2:List Hl),v18=.int .i64 k∧k≤ys.length∧Hid (stsOf xs2=midL (insL hs) ys L0 l0 k)∧Hid (QS wi wS.heap.size g gA hs.length gc caps runes SA sc xs2 YA ys.length yc)∧Hid (KpP (·=g) wS wi)) (fun v _=>ys.length-(intOf v).toNat)
            case atStart=>exact⟨0,SA,sc,xs,rfl,om,HM1,HQX,HKX⟩
            case round=>
             clear HQX HKX HM1 c3 HRI;obtain⟨k,SA,sc,xs2,rfl,hk,HM,HQ,HK⟩:=hrel;have hx2:xs2.length≤2024:=by
              have h:=midL_len (insL hs) ys L0 l0 k
              rw[←HM.out,stsOf_len] at h;omega
             have c4:wr.cell? ⟨g,4,none⟩=some (.slice YA ys.length yc):=HQ.out.blk.cell 4;by_cases hkt:k<ys.length
             ·have hkI:(k:Int)<ys.length:=om;have hxi:∃hi2:i<xs2.length,xs2[i].l=l0:=by
               obtain⟨t,h⟩:=midL_pre (insL hs) ys L0 l0 k;have h2:(stsOf xs2)[i]? = some l0:=by
                rw[HM.out,h,List.getElem?_append_left hiL];exact HGI.out
               unfold stsOf at h2;rw[List.getElem?_map] at h2;obtain⟨z,hz,e⟩:=Option.map_eq_some_iff.1 h2;obtain⟨h3,h4⟩:=List.getElem?_eq_some_iff.1 hz;exact⟨h3,by rw[h4];exact e⟩
              obtain⟨hi2,hxl0⟩:=hxi;have hi2I:(i:Int)<xs2.length:=om;obtain⟨sb,so,hSA,s0⟩:=HQ.out.sz.ln.get hi2;have hSA':=hSA;subst hSA';have hilx:=HQ.out.sz.il _ (List.mem_map_of_mem (f:=Hl.z) (List.getElem_mem hi2));simp only[Hl.z] at hilx;have HIYr:=lh (HIY.out.kpz HK.out (fun _ b hb e=>HYN.out b hb e));obtain⟨yb,yo,hYA,y0⟩:=HIYr.out.get hkt;have hYA':=hYA;subst hYA';have HSUC:=lh (midL_succ (insL hs) ys L0 l0 hkt)
              rw[←HM.out] at HSUC;generalize ys[k]=y at *;obtain⟨XX,hXX⟩:∃z,Hid (xs2[i]=z):=⟨_,lh rfl⟩;rw[hXX.out] at hxl0 s0 hilx;obtain⟨XA,xc,xl⟩:=XX
              simp only at hxl0 s0 hilx
              subst hxl0;have hgq4:gq<w4.heap.size:=HB4.out.lt;have HBr:=lh (HK.out.blk (HB4.out.ext HXS.out) om);have HXr:Hid (Ext w wr):=lh ((HX4.out.trans HXS.out).kp HK.out (fun i hi=>by have e:i=g:=hi;omega));have HPr:=lh (HP.out.ext HXr.out);have q0:wr.cell? ⟨gq,0,none⟩=some (.slice gA hs.length gc):=HBr.out.cell 0;have q1:wr.cell? ⟨gq,1,none⟩=some (.int .i64 caps):=HBr.out.cell 1;have q2:wr.cell? ⟨gq,2,none⟩=some (.bool runes):=HBr.out.cell 2;have c3:wr.cell? ⟨g,3,none⟩=some (.slice (some ⟨sb,so,none⟩) xs2.length sc):=HQ.out.blk.cell 3;have HNC:=fun(w':World) (h:Ext wr w')=>HNX w' (HPr.out.ext h) XA xc xl (hilx.ext h) HLT.out.1 (Nat.le_trans HLT.out.2 h8) y;obtain⟨t2,ht2⟩:∃t2,Hid (nextG (insL hs) xl y=t2):=⟨_,lh rfl⟩;rw[ht2.out] at HSUC;simp only[ht2.out] at HNC
              go_upto_region 43 with fail
              have k0:=kc0 q0;have k1:=kc0 q1;have k2:=kc0 q2;have k3:=kc0 c3;have k4:=kc0 c4;have k5:=kc0 s0;have k6:=kc0 y0;refine Xr.start [] kr ?_;refine Xtk 0 ?_
              iterate 10(refine Xtn ?_)
              refine Xcl 11 fun wp hEp hKp K hKK=>?_;go_simp;refine(HNC wp hEp).out.mono ?_;rintro e wq ⟨T,tc2,rfl,hT,xq,fT⟩;refine hKK _ _ xq ?_;clear hKK;refine ptm ?_;refine Xtk 12 ?_;refine Xdn fun ws hEs hKs=>?_;have xs3:=(hEp.trans xq).trans hEs;have HTs:=lh (hT.ext hEs);have hTs:=HTs.out.len;have HTf:=lh (show ∀b,T.map (·.block)=some b→wr.heap.size≤b from fun b hb=>Nat.le_trans hEp.size (fT b hb));have HQs:=lh (HQ.out.ext xs3);have HKs:=lh (HK.out.trans (KpP.of_ext xs3));have hgr3:g<wr.heap.size:=HQ.out.blk.lt;have hsb:sb<wr.heap.size:=World.block_lt_of_cell? _ _ s0;clear k0 k1 k2 k3 k4 k5 k6 q0 q1 q2 c3 c4 s0 y0 hEp hKp hT xq fT hEs hKs HNC HIYr hilx HBr HPr HQ HK xs3;obtain⟨q0,q1,q2,q3,q4,q5⟩:=qC_cells HQs.out.blk;have HPL:=HPLC (some ⟨sb,so,none⟩) sc xs2 T tc2 t2 ws HQs.out.sz.ln HTs.out;have HTL:=lh (castL_len t2);by_cases ht0:t2=[]
              ·have h0I:¬(0:Int)<(castL t2).length:=by rw[ht0];simp[castL]
               have HE:Hid (stsOf xs2=midL (insL hs) ys L0 xl (k+1)):=lh (by rw[HSUC.out];unfold grow;rw[if_pos (.inl ht0)]);clear ht0 HPL
               go_wp2_with fail
               go_roundw
               case rel=>exact⟨k+1,_,sc,xs2,by go_num,om,HE,HQs,HKs⟩
               case measure=>simp[intOf];omega
              ·have h0I:(0:Int)<(castL t2).length:=by
                rw[HTL.out];have:=List.length_pos_iff.2 ht0;omega
               by_cases hm:t2∈stsOf xs2
               ·have HE:Hid (stsOf xs2=midL (insL hs) ys L0 xl (k+1)):=lh (by rw[HSUC.out];unfold grow;rw[if_pos (.inr hm)]);obtain⟨p,hp⟩:∃p:Nat,plc (stsOf xs2) t2=p:=⟨_,by unfold plc;rw[if_pos hm]⟩;rw[hp] at HPL;have hp0:¬(p:Int)<0:=om;clear hm hp ht0
                go_upto_region 42 with(go_at_call 78;refine HPL.out.mono ?_;rintro e w11 ⟨rfl,x11⟩)
                have HQ11:=lh (HQs.out.ext x11);have HK11:=lh (HKs.out.trans (KpP.of_ext x11));clear q0 q1 q2 q3 q4 q5 HQs HKs x11
                go_wp2_with fail
                go_roundw
                case rel=>exact⟨k+1,_,sc,xs2,by go_num,om,HE,HQ11,HK11⟩
                case measure=>simp[intOf];omega
               ·have hp:plc (stsOf xs2) t2 = -1:=by unfold plc;rw[if_neg hm]
                rw[hp] at HPL;have HE:Hid (stsOf (xs2++[(⟨T,tc2,t2⟩:Hl)])=midL (insL hs) ys L0 xl (k+1)):=lh (by
                 rw[HSUC.out];unfold grow;rw[if_neg (fun h=>h.elim ht0 hm)];simp[stsOf])
                clear hm hp ht0
                go_upto_region 45 with(go_at_call 78;refine HPL.out.mono ?_;rintro e w11 ⟨rfl,x11⟩)
                have HQ11:=lh (HQs.out.ext x11);have HK11:=lh (HKs.out.trans (KpP.of_ext x11));have HT11:=lh (HTs.out.ext x11);have h11:=x11.size;clear q0 q1 q2 q3 q4 q5 HQs HKs HTs x11;have c3:w11.cell? ⟨g,3,none⟩=some (.slice (some ⟨sb,so,none⟩) xs2.length sc):=HQ11.out.blk.cell 3;have EP:=Ext.alloc w11 (.cells #[.slice T (castL t2).length tc2] 22);have hEP:=Nat.le_trans HK11.out.size EP.size;have HBL:=fun(w8:World) (hg:(w11.alloc (.cells #[.slice T (castL t2).length tc2] 22)).grownBy w8 ((some (⟨sb,so,none⟩:Addr)).map (·.block)))=>(KpP.of_grown hg).blk (HQ11.out.blk.ext EP) (own_blk (OwnS.ext HQ11.out.own EP) (HQ11.out.blk.ext EP) de);have HE3:=lh (show(xs2++[(⟨T,tc2,t2⟩:Hl)]).length=xs2.length+1 by simp)
                go_upto_region 42 with(at_builtin;refine wpList_app _ rfl _ _ _ rfl wS.heap.size 22 iL (.slice none 0 0) 1 24 Tryz.underlying50 jL0 jL1 jL2 jL3 rfl om (some ⟨sb,so,none⟩) xs2.length sc (flatL xs2) rfl (OwnS.ext HQ11.out.own (Ext.alloc _ _)) _ 1 1 [.slice T (castL t2).length tc2] rfl rfl (blk_cells (Blk.new _ _ _)) (by intro u hu;obtain rfl:=List.mem_singleton.1 hu;rfl) um om hEP ?_;intro A8 c8 w8 ho8 hg8 hat8;have cl8:=(HBL w8 hg8).cell 3;have fl8:=(HBL w8 hg8).frz 3)
                have HQ8:=lh (HQ11.out.push (z:=⟨T,tc2,t2⟩) HT11.out (fun hx b hb e=>by
                 have h1:=HTf.out b hb;have h2:sb=b:=by simpa using e
                 omega) (fun _ b hb=>by have:=HTf.out b hb;omega) (A8:=A8) (c8:=c8) (v:=.slice A8 (xs2.length+1) c8) rfl ho8 hg8 hat8)
                have HK8:Hid (KpP (·=g) wS (w8.setCell ⟨g,3,none⟩ (.slice A8 (xs2.length+1) c8))):=lh (KpP.chain (HK11.out.trans (KpP.of_ext EP)) (kpp_app g 3 hg8 (Ext.rfl' w8) _) (fun b hb=>hb.elim (fun h=>.inr (OwnS.row HQ11.out.own b h)) .inl));clear cl8 fl8 ho8 hg8 hat8 HBL c3 EP HPL
                go_wp2_with fail
                go_roundw
                case rel=>exact⟨k+1,A8,c8,xs2++[⟨T,tc2,t2⟩],by go_num,om,HE,HQ8,HK8⟩
                case measure=>simp[intOf];omega
             ·have hkI:¬(k:Int)<ys.length:=om;obtain rfl:ys.length=k:=om;have HR2:=lh (show RfI (insL hs) ys RES (stsOf xs2) (i+1) by rw[HM.out];exact HSTP.out)
              go_wp2_with fail
              go_roundw
              case rel=>exact⟨i+1,SA,sc,xs2,by go_num,HR2,HQ,HK⟩
              case measure=>simp[intOf];omega
          ·have hiI:¬(i:Int)<xs.length:=om;obtain⟨hfin,hx10⟩:=HRI.out.fin (by rw[stsOf_len];exact hlt);have HX10:=lh hx10;rw[stsOf_len] at hx10;have HFIN:=lh hfin;have HCL:=lh (show ∀x∈stsOf xs,∀y∈ys,nextG (insL hs) x y=[]∨nextG (insL hs) x y∈stsOf xs from fun x hx y hy=>by
            obtain⟨j,hj,rfl⟩:=List.mem_iff_getElem.1 hx;exact HRI.out.clo j hj (by rw[stsOf_len] at hj;omega) y hy)
           have HLT2:=lh (show ∀x∈stsOf xs,(∀q∈x,q<hs.length)∧x.length≤8192 from fun x hx=>by
            have h:=HRI.out.lt x hx;rw[insL_len] at h;exact⟨h.1,om⟩)
           obtain⟨wF,hwF⟩:∃x,x=wr:=⟨_,rfl⟩;subst hwF;have HSZ:=lh HQX.out.sz;have HNG:=lh HQX.out.ng;have HSAN:=lh (show ∀b,SA.map (·.block)=some b→b≠g from fun b hb e=>own_blk HQX.out.own HQX.out.blk de (e▸hb));have HSAW:=lh (show ∀b,SA.map (·.block)=some b→wS.heap.size≤b from fun b hb=>OwnS.row HQX.out.own b hb);have HIYF:=lh (HIY.out.kpz HKX.out (fun _ b hb e=>HYN.out b hb e));have HXF:Hid (Ext w wF):=lh ((HX4.out.trans HXS.out).kp HKX.out (fun i hi=>by have e:i=g:=hi;omega));have HRF:=lh (HKX.out.blk (HR4.out.ext HXS.out) om);have hwF4:wS.heap.size≤wF.heap.size:=HKX.out.size;have HWD:=fun(w':World) (hP:PL w' gA gc hs) (hY:IL w' YA yc ys) (OA:Option Addr) (on oc:Nat) (z:Hl) (hz:z∈xs) (hS:IL w' z.A z.c (castL z.l))=>lh (word_any gA gc hs runes caps HG.out w' hP SA xs.length sc YA yc ys hY om OA on oc z.A z.c z.l hS (HLT2.out z.l (List.mem_map_of_mem hz)).1 (HLT2.out z.l (List.mem_map_of_mem hz)).2 (stsOf xs) HX10.out HCL.out (fun y hy=>HCL.out z.l (List.mem_map_of_mem hz) y hy) HLT2.out);unfold mchV at HWD;have HQO0:Hid (QO wF wF.heap.size g gA hs.length gc caps runes SA sc xs.length YA ys.length yc none 0 []):=lh ⟨HQX.out.blk,OwnS.nil _ _ _ _⟩;have HU0:Hid (OpnU (insL hs) ys (stsOf xs) 0 []):=lh (OpnU.zero _ _ _);have hgF:g<wF.heap.size:=HQX.out.blk.lt;obtain⟨iB,jB0,jB1,jB2,jB3⟩:=info_parts infoBl;clear HRI hfin HPLC HNX
           go_upto_region 47 with fail
           clear HQX HKX c3
           go_loopw [20] (fun v20 wr=>∃(i:Nat) (OA:Option Addr) (oc:Nat) (op:List Bool),v20=.int .i64 i∧i≤xs.length∧Hid (OpnU (insL hs) ys (stsOf xs) i op)∧Hid (QO wr wF.heap.size g gA hs.length gc caps runes SA sc xs.length YA ys.length yc OA oc op)∧Hid (KpP (·=g) wF wr)) (fun v _=>xs.length-(intOf v).toNat)
           case atStart=>exact⟨0,none,0,[],rfl,om,HU0,HQO0,lh (KpP.refl _ _)⟩
           case round=>
            clear HU0 HQO0 hlt hil hiI hxl;obtain⟨i,OA,oc,op,rfl,hi,HU,HQ,HK⟩:=hrel;have hol:op.length≤1024:=by have:=HU.out.1;omega
            have HSr:=lh (HSZ.out.kp HK.out (fun b hb e=>HSAN.out b hb e) (fun z hz hx b hb e=>by
             obtain⟨q,hq,rfl⟩:=List.mem_map.1 hz;have h1:=HNG.out q hq hx b hb;have h2:b=g:=e;omega))
            have HIYr:=lh (HIYF.out.kpz HK.out (fun _ b hb e=>HYN.out b hb e));have HXr:Hid (Ext w wr):=lh (HXF.out.kp HK.out (fun i hi=>by have e:i=g:=hi;omega));have HPr:=lh (HP.out.ext HXr.out);have HRr:=lh (HK.out.blk HRF.out om);have hFr:wF.heap.size≤wr.heap.size:=HK.out.size;obtain⟨c0,c1,c2,c3,c4,c5⟩:=qC_cells HQ.out.blk;by_cases hlt:i<xs.length
            ·have hiI:(i:Int)<xs.length:=om;have hiL:i<(stsOf xs).length:=by rw[stsOf_len];exact hlt
             have HSN:=fun(b:Bool) (hb:b=true↔Opn (nextG (insL hs)) ys (doneG (insL hs)) xs[i].l)=>HU.out.snoc hiL (b:=b) (by simpa[stsOf] using hb);obtain⟨sb,so,hSA,s0⟩:=HSr.out.ln.get hlt;have hSA':=hSA;subst hSA';have hilx:=HSr.out.il _ (List.mem_map_of_mem (f:=Hl.z) (List.getElem_mem hlt));simp only[Hl.z] at hilx;have HWi:=fun(w':World) (x:Ext wr w')=>HWD w' (HPr.out.ext x) (HIYr.out.ext x) OA op.length oc xs[i] (List.getElem_mem hlt) (hilx.ext x);generalize xs[i]=X at *;obtain⟨XA,xc,xl⟩:=X
             simp only at s0 hilx HWi HSN
             go_upto_region 49 with fail
             have k0:=kc0 c0;have k1:=kc0 c1;have k2:=kc0 c2;have k3:=kc0 c3;have k4:=kc0 c4;have k5:=kc0 c5;have k6:=kc0 s0;refine Xr.start [] kr ?_;refine Xtk 0 ?_
             iterate 5(refine Xtn ?_)
             refine Xcl 6 fun wp hEp hKp K hKK=>?_;go_simp;refine(HWi wp hEp).out.mono ?_;rintro e wq ⟨WA,wc2,wd,b,rfl,hWI,xq,hb1,hb2⟩;refine hKK _ _ xq ?_;clear hKK;refine ptm ?_;refine Xtk 7 ?_
             iterate 4(refine Xtn ?_)
             refine Xdn fun ws hEs hKs=>?_;have xs3:=(hEp.trans xq).trans hEs;have HQs:=lh (HQ.out.ext xs3);have HKs:=lh (HK.out.trans (KpP.of_ext xs3));have c5s:=xs3.cell c5;have hFs:=Nat.le_trans hFr xs3.size;clear k0 k1 k2 k3 k4 k5 k6 c0 c1 c2 c3 c4 c5 s0 hEp hKp hWI xq hEs hKs HWi HIYr hilx HPr HQ HK xs3 HSr
             cases b with
             | true=>
              have HUS:=lh (HSN true (iff_of_true rfl (opn_word (nextG_nil _) (doneG_nil _) wd xl (hb1 rfl).1 (hb1 rfl).2.1 (hb1 rfl).2.2)));have hwn:0<wd.length:=List.length_pos_iff.2 (hb1 rfl).1;have HDW:=lh (decide_eq_true hwn);have EP:=Ext.alloc ws (.cells #[.bool true] 4);have hEP:=Nat.le_trans hFs EP.size;have HBL:=fun(w8:World) (hg:(ws.alloc (.cells #[.bool true] 4)).grownBy w8 (OA.map (·.block)))=>(KpP.of_grown hg).blk (HQs.out.blk.ext EP) (own_blk (OwnS.ext HQs.out.own EP) (HQs.out.blk.ext EP) de);clear hb1 hb2 HSN
              go_upto_region 48 with(at_builtin;refine wpList_app _ rfl _ _ _ rfl wF.heap.size 4 iB _ 1 1 Tryz.underlying51 jB0 jB1 jB2 jB3 rfl om OA op.length oc (op.map Value.bool) rfl (OwnS.ext HQs.out.own (Ext.alloc _ _)) _ 1 1 ([true].map Value.bool) rfl rfl (blk_cells (Blk.new _ _ _)) (bools_one _) um om hEP ?_;intro A8 c8 w8 ho8 hg8 hat8;have cl8:=(HBL w8 hg8).cell 5;have fl8:=(HBL w8 hg8).frz 5)
              have HQ8:=lh ((HQs.out.ext EP).push (b0:=true) (A8:=A8) (c8:=c8) (v:=.slice A8 (op.length+1) c8) rfl hg8 ho8);have HK8:Hid (KpP (·=g) wF (w8.setCell ⟨g,5,none⟩ (.slice A8 (op.length+1) c8))):=lh (KpP.chain (HKs.out.trans (KpP.of_ext EP)) (kpp_app g 5 hg8 (Ext.rfl' w8) _) (fun b hb=>hb.elim (fun h=>.inr (OwnS.row HQs.out.own b h)) .inl));clear cl8 fl8 ho8 hg8 hat8 HBL EP
              go_wp2_with fail
              go_roundw
              case rel=>exact⟨i+1,A8,c8,op++[true],by go_num,om,HUS,HQ8,HK8⟩
              case measure=>simp[intOf];omega
             | false=>
              have HUS:=lh (HSN false (iff_of_false de (hb2 rfl).2));have EP:=Ext.alloc ws (.cells #[.bool false] 4);have hEP:=Nat.le_trans hFs EP.size;have HBL:=fun(w8:World) (hg:(ws.alloc (.cells #[.bool false] 4)).grownBy w8 (OA.map (·.block)))=>(KpP.of_grown hg).blk (HQs.out.blk.ext EP) (own_blk (OwnS.ext HQs.out.own EP) (HQs.out.blk.ext EP) de);clear hb1 hb2 HSN
              go_upto_region 48 with(at_builtin;refine wpList_app _ rfl _ _ _ rfl wF.heap.size 4 iB _ 1 1 Tryz.underlying51 jB0 jB1 jB2 jB3 rfl om OA op.length oc (op.map Value.bool) rfl (OwnS.ext HQs.out.own (Ext.alloc _ _)) _ 1 1 ([false].map Value.bool) rfl rfl (blk_cells (Blk.new _ _ _)) (bools_one _) um om hEP ?_;intro A8 c8 w8 ho8 hg8 hat8;have cl8:=(HBL w8 hg8).cell 5;have fl8:=(HBL w8 hg8).frz 5)
              have HQ8:=lh ((HQs.out.ext EP).push (b0:=false) (A8:=A8) (c8:=c8) (v:=.slice A8 (op.length+1) c8) rfl hg8 ho8);have HK8:Hid (KpP (·=g) wF (w8.setCell ⟨g,5,none⟩ (.slice A8 (op.length+1) c8))):=lh (KpP.chain (HKs.out.trans (KpP.of_ext EP)) (kpp_app g 5 hg8 (Ext.rfl' w8) _) (fun b hb=>hb.elim (fun h=>.inr (OwnS.row HQs.out.own b h)) .inl));clear cl8 fl8 ho8 hg8 hat8 HBL EP
              go_wp2_with fail
              go_roundw
              case rel=>exact⟨i+1,A8,c8,op++[false],by go_num,om,HUS,HQ8,HK8⟩
              case measure=>simp[intOf];omega
            ·have hiI:¬(i:Int)<xs.length:=om;obtain rfl:xs.length=i:=om;have hc:newE runes caps (insL hs)=0:=by
              unfold newE;rw[hE0.out,hSE.out,stsG_alike HG.out,hys.out,hRES.out,HFIN.out]
              simp
             have HC:=lh hc;clear hc;obtain⟨f0,f1,f2,f3,f4,f5⟩:=q_frz HRr.out;obtain⟨r0,r1,r2,r3,r4,r5⟩:=q_cells HRr.out;have HLI:=lh (show OpnL (insL hs) ys (stsOf xs) op from OpnU.all (by rw[stsOf_len];exact HU.out));have HQB:=HQ
             go_wp2_with fail
             have xz:=setQ_ext (gA:=gA) (n:=hs.length) (gc:=gc) (caps:=caps) (runes:=runes) (SA:=SA) (sn:=xs.length) (sc:=sc) (YA:=YA) (yn:=ys.length) (yc:=yc) (OA:=OA) (on:=op.length) (oc:=oc) HXr.out hgrr;have HZ:=setQ_blk (gA:=gA) (n:=hs.length) (gc:=gc) (caps:=caps) (runes:=runes) (SA:=SA) (sn:=xs.length) (sc:=sc) (YA:=YA) (yn:=ys.length) (yc:=yc) (OA:=OA) (on:=op.length) (oc:=oc) HRr.out;have kz:=setQ_kp (p:=(·=gr)) (gA:=gA) (n:=hs.length) (gc:=gc) (caps:=caps) (runes:=runes) (SA:=SA) (sn:=xs.length) (sc:=sc) (YA:=YA) (yn:=ys.length) (yc:=yc) (OA:=OA) (on:=op.length) (oc:=oc) (KpP.refl _ wr) rfl;change bodyPost _ _ _ _ _ (setQ wr gr gA hs.length gc caps runes SA xs.length sc YA ys.length yc OA op.length oc);generalize setQ wr gr gA hs.length gc caps runes SA xs.length sc YA ys.length yc OA op.length oc=wz at *;obtain⟨z0,z1,z2,z3,z4,z5⟩:=qC_cells HZ;have hLN:LN wz SA sc xs:=(HSr.out.kp kz (fun b hb e=>by
              have h1:=HSAW.out b hb;have h2:b=gr:=e;omega) (fun z hz hx b hb e=>by
              obtain⟨q,hq,rfl⟩:=List.mem_map.1 hz;have h1:=HNG.out q hq hx b hb;have h2:b=gr:=e;omega)).ln
             have hYL:IL wz YA yc ys:=HIYr.out.kpz kz (fun _ b hb e=>by
              have h1:=HYW.out b hb;have h2:b=gr:=e;omega)
             have hOL:IB wz OA oc op:=IB.of_own (OwnS.kp HQB.out.own kz (fun b hb e=>by
              have h1:=OwnS.row HQB.out.own b hb;have h2:b=gr:=e;omega))
             exact bodyPost_ret (v:=.tuple #[mchV gA hs.length gc caps runes SA xs.length sc YA ys.length yc OA op.length oc,.int .i64 0]) (by simp[results,Tryz.results22,go_sem,z0,z1,z2,z3,z4,z5,mchV]) rfl ⟨xz,.inr ⟨HC.out,SA,sc,xs,YA,yc,OA,oc,op,by rw[hys.out],hLN,by rw[hys.out];exact hYL,hOL,HG.out,by rw[hys.out,hRES.out,HFIN.out],by rw[hys.out];exact HLI.out⟩⟩
     ·have hsb:(SE != 0)=true:=by simpa using hs0
      have hc:newE runes caps (insL hs)=SE:=by
       unfold newE;rw[hE0.out,hSE.out];simp[hs0]
      have HC:=lh hc;clear hc hk4;obtain⟨f0,f1,f2,f3,f4,f5⟩:=q_frz HR4.out;obtain⟨r0,r1,r2,r3,r4,r5⟩:=q_cells HR4.out
      go_wp2_with fail
      have xz:=setQ_ext (gA:=none) (n:=0) (gc:=0) (caps:=0) (runes:=false) (SA:=none) (sn:=0) (sc:=0) (YA:=none) (yn:=0) (yc:=0) (OA:=none) (on:=0) (oc:=0) HX4.out hgrr;have HZ:=setQ_blk (gA:=none) (n:=0) (gc:=0) (caps:=0) (runes:=false) (SA:=none) (sn:=0) (sc:=0) (YA:=none) (yn:=0) (yc:=0) (OA:=none) (on:=0) (oc:=0) HR4.out;change bodyPost _ _ _ _ _ (setQ w4 gr none 0 0 0 false none 0 0 none 0 0 none 0 0);generalize setQ w4 gr none 0 0 0 false none 0 0 none 0 0 none 0 0=wz at *;obtain⟨z0,z1,z2,z3,z4,z5⟩:=qC_cells HZ;exact bodyPost_ret (v:=.tuple #[mchV none 0 0 0 false none 0 0 none 0 0 none 0 0,.int .i64 SE]) (by simp[results,Tryz.results22,go_sem,z0,z1,z2,z3,z4,z5,mchV]) rfl ⟨xz,.inl ⟨by rw[HC.out];exact hs0,by rw[HC.out]⟩⟩
 ·have h0b:(E0 != 0)=true:=by simpa using h0
  go_wp2_with (go_at_call 74;refine HV.out.mono ?_;rintro e w2 ⟨rfl,x2⟩;have HR2:=HBR.out.ext x2;obtain⟨f0,f1,f2,f3,f4,f5⟩:=q_frz HR2;obtain⟨r0,r1,r2,r3,r4,r5⟩:=q_cells HR2)
  have hc:newE runes caps (insL hs)=E0:=by
   unfold newE;rw[hE0.out,if_pos h0]
  have xz:=setQ_ext (gA:=none) (n:=0) (gc:=0) (caps:=0) (runes:=false) (SA:=none) (sn:=0) (sc:=0) (YA:=none) (yn:=0) (yc:=0) (OA:=none) (on:=0) (oc:=0) (X0.trans x2) hgrr;have HZ:=setQ_blk (gA:=none) (n:=0) (gc:=0) (caps:=0) (runes:=false) (SA:=none) (sn:=0) (sc:=0) (YA:=none) (yn:=0) (yc:=0) (OA:=none) (on:=0) (oc:=0) HR2;change bodyPost _ _ _ _ _ (setQ w2 gr none 0 0 0 false none 0 0 none 0 0 none 0 0);generalize setQ w2 gr none 0 0 0 false none 0 0 none 0 0 none 0 0=wz at *;obtain⟨z0,z1,z2,z3,z4,z5⟩:=qC_cells HZ;exact bodyPost_ret (v:=.tuple #[mchV none 0 0 0 false none 0 0 none 0 0 none 0 0,.int .i64 E0]) (by simp[results,Tryz.results22,go_sem,z0,z1,z2,z3,z4,z5,mchV]) rfl ⟨xz,.inl ⟨by rw[hc];exact h0,by rw[hc]⟩⟩
end
end Go.Proofs.YtmocoldobnimfaaGreat
