/- Texts of this proof: Y34. -/
import Derived.Test.YtmpcoifnpflapaaGreatER39
set_option linter.all false
set_option maxRecDepth 100000
set_option maxHeartbeats 16000000
namespace Go.Proofs.YtmpcoifnpflapaaGreat
section
open Go.RowKit
attribute [local go_sem ↓] Go.wp_at_zero Go.wp_at_succ
theorem KX.blkK {gM g:Nat}{w w':World}{ds:Array Value}(k:KX gM w w')(h:Blk w g 21 ds):Blk w' g 21 ds:=by
 obtain⟨q,k,n⟩:=k;exact(k.block g h.lt (fun hq=>(n g hq _ _ h).1.2.2.1 rfl)).trans h
theorem infoR32:(Tryz.prog.info? 197).map (fun i=>(i.zero,i.size,i.bytes))=some (some (.slice none 0 0),1,24):=by kernel_rfl
theorem infoBo:(Tryz.prog.info? 4).map (fun i=>(i.zero,i.size,i.bytes))=some (some (.bool false),1,1):=by kernel_rfl
theorem Y34z1 {P:Prop} (h:P:=by
 go_wp2_with fail
 go_roundw
 case rel=>exact⟨j+1,B,d,by go_num,om,by rw[HU2.out],by rw[HU2.out];exact HBB,x1⟩
 case measure=>simp[intOf];omega):P:=h
theorem Y34z2 {P:Prop} (h:P:=by
 rcases hi with hi|hi|hi
 ·exact .inl (.inr (.inl hi))
 ·exact .inl (.inr (.inr (.inr hi)))
 ·right;rw[<-HXB.out];omega):P:=h
theorem explore_any (w0 w:World)(p:BP)(gA:Option Addr)(gc:Nat)(hs:List Hin)(cs:List Int)(rows:List Kb)(h:BS w w0 p gA gc hs cs rows 0 none 0 [])(hbase:w.heap.size<=p.base)
 (runes0:Bool) (caps:Int) (hG:GOk runes0 caps (insL hs)) (hP:PL w0 gA gc hs) (hcs:cs.length<=10000) (g:Nat) (hg:w0.heap.size<=g) (runes:Bool) (rA:Option Addr) (rn rc:Nat) (f0:Int)
 (hm:ExM w g w.heap.size runes rA rn rc f0 none 0 [] none 0 []) :
 Calls Tryz.prog 73 #[.pointer (some ⟨g,0,none⟩),.pointer (some ⟨p.gb,0,none⟩),.int .i64 cs.length] w (RetEx w0 g w.heap.size runes rA rn rc (insL hs) cs (stsG (insL hs) cs)):=by
 have hgl:=hP.len;have hn8:=hG.len;rw[insL_len] at hn8;have hgw:g<w.heap.size:=hm.blk.lt;have hw0:w0.heap.size<=w.heap.size:=h.ext.size;have HRO:=fun(w':World) (k:KpP (QE g p) w w')=>lh (show RowsOk w' hs cs hs.length rows from h.ro.kpT k (fun b hb cur hh=>by
  rcases hb with rfl|rfl|rfl|rfl
  ·exact blk_notB hm.blk de cur hh
  ·exact blk_notB h.bb de cur hh
  ·obtain⟨ms,h5,_⟩:=h.bm;exact blk_notB h5 de cur hh
  ·exact map_notT h.nm.map cur hh))
 have HP:=lh hP;have HG:=lh hG;have HG0:Hid (0<=p.gM/\p.gM<w.heap.size):=lh (by
  obtain⟨ms,h5,_⟩:=h.bm;exact⟨Nat.zero_le _,h5.lt⟩)
 have BF:=Blk.new w 3 #[.int .i64 0];have EF:=Ext.alloc w (.cells #[.int .i64 0] 3);have HB1:=lh (h.extW EF);have HM1:=lh (hm.ext EF);have HK1:Hid (KpP (QE g p) w (w.alloc (.cells #[.int .i64 0] 3))):=lh (KpP.of_ext EF);obtain⟨RES,hRES⟩:∃RES,Hid (stsG (insL hs) cs=RES):=⟨_,lh rfl⟩;rw[hRES.out];have HO:=lh (OutI.start (insL hs) cs);rw[hRES.out] at HO;obtain⟨xb,hxb⟩:∃xb,xb=w.heap.size:=⟨_,rfl⟩
 rw[<-hxb] at hbase hgw hw0 HG0 HM1 BF ⊢;have HXB:=lh hxb;obtain⟨S0,hS0⟩:∃S0,Hid (stateG (insL hs) [0]=S0):=⟨_,lh rfl⟩;have HS0:=lh (st_lt (insL hs) [0]);rw[insL_len] at HS0;rw[hS0.out] at HO HS0;have HLS:=fun(F:Option Addr) (hF:IL (w.alloc (.cells #[.int .i64 0] 3)) F 1 (natsI [0])) tF nF=>lh (listS_any HB1.out hG hP ⟨om,om⟩ F 1 [0] hF tF nF (by simp;omega));rw[hS0.out] at HLS;clear h hm hP hG hxb;go_enter Tryz.func73,Tryz.ntmps73
 go_upto_region 1 with fail
 go_upto_region 2 with fail
 rw[<-HXB.out];generalize w.alloc (.cells #[.int .i64 0] 3)=wa at *;have tF:TyI wa (some ⟨xb,0,none⟩):=fun b hb=>by
  have e:xb=b:=by simpa using hb
  subst e;exact⟨_,BF⟩
 refine(HLS (some ⟨xb,0,none⟩) (IL.one (x:=0) BF (by unfold I64;omega)) tF (by have:=HG0.out;simp;omega)).out.mono ?_;rintro e w3 ⟨A,c,rfl,iA,tA,nA,B3,K3,X3⟩;have HM3:=lh (HM1.out.kx X3);have HB3:=lh B3;have HK3:=lh (KpP.chain HK1.out K3 (fun i hi=>.inl (hi.elim (fun e=>.inr (.inl e)) (fun e=>.inr (.inr (.inl e))))));clear HLS HB1 HM1 HK1 BF EF tF B3 K3 X3
 go_upto_region 2 with fail
 refine(numS_any HB3.out si A c S0 iA (by have:=HS0.out.2;omega) (fun i hi=>by have:=HS0.out.1 i hi;omega) tA nA).mono ?_;rintro e w4 ⟨LA,Lc,sts,rfl,hst,B4,K4,X4⟩;have hst2:stsOf sts=grow [] S0:=hst
 rw[<-hst2] at HO;have HM4:=lh (HM3.out.kx X4);have HB4:=lh B4;have HK4:=lh (KpP.chain HK3.out K4 (fun i hi=>by
  exact Y34z2))
 generalize idx (stsOf sts) S0=fs0 at *;have q2:w4.cell? ⟨g,2,none⟩=some (.int .i32 f0):=HM4.out.blk.cell 2;have f2:=HM4.out.blk.frz 2;clear HB3 HM3 HK3 iA tA nA hst hst2 B4 K4 X4
 go_upto_region 2 with fail
 have HM5:=lh (HM4.out.fst fs0);have k5:KpP (fun b=>(none:Option Addr).map (·.block)=some b\/b=g) w4 (w4.setCell ⟨g,2,none⟩ (.int .i32 fs0)):=KpP.set (x:=⟨g,2,none⟩) (KpP.refl _ _) (.inl (.inr rfl)) _;have HK5:=lh (KpP.chain HK4.out k5 (fun i hi=>.inl (.inl (by simpa using hi))));have HB5:=lh (HB4.out.mac (OwnS.nil w4 xb 21 1) de hw0 HM4.out.blk hg k5 (HRO _ HK5.out).out);generalize w4.setCell ⟨g,2,none⟩ (.int .i32 fs0)=w5 at *;clear HM4 HB4 HK4 q2 f2 k5
 go_upto_region 3 with fail
 have hmk:=mkK cs.length om;have HLS2:=fun(w1:World) (LA:Option Addr) (Lc:Nat) (sts:List Hl) (mk:Int) (hB:BS w1 w0 p gA gc hs cs rows mk LA Lc sts) (hm:0<=mk/\mk<=1000000000) F fc fs hF tF nF hfs=>lh (listS_any hB HG.out HP.out hm F fc fs hF tF nF hfs)
 go_loopw [7] (fun v wr=>∃(i:Nat) (LA:Option Addr) (Lc:Nat) (sts:List Hl) (mk:Int) (nA:Option Addr) (nc:Nat) (nxt:List Kr) (dA:Option Addr) (dc:Nat) (dn:List Bool),v=.int .i64 i/\Hid (BS wr w0 p gA gc hs cs rows mk LA Lc sts)/\Hid (ExM wr g xb runes rA rn rc fs0 nA nc nxt dA dc dn)/\Hid (OutI (insL hs) cs RES (stsOf sts) i fs0 (rowsOf nxt) dn)/\Hid (1<=mk/\mk<=200+10000*(i:Int))/\Hid (KpP (QE g p) w wr)) (fun v _=>1030-(intOf v).toNat)
 case atStart=>exact⟨0,LA,Lc,sts,0+1,none,0,[],none,0,[],rfl,HB5,HM5,HO,lh om,HK5⟩
 case round=>
  obtain⟨i,LA',Lc',sts',mk,nA,nc,nxt,dA,dc,dn,rfl,HB,HM,HO2,HMK,HK⟩:=hrel;clear HB5 HM5 HO HK5;obtain⟨wR,hwR⟩:∃x,x=wr:=⟨_,rfl⟩;subst hwR;have qb5:wR.cell? ⟨p.gb,5,none⟩=some (.slice LA' sts'.length Lc'):=HB.out.bb.cell 5;have HLc:=OwnS.caps HB.out.nm.own;by_cases hlt:i<sts'.length
  ·have hiI:(i:Int)<sts'.length:=om;have hi2:i<(flatL sts').length:=by simpa[flatL] using hlt
   obtain⟨lb,lo,hLA,cl⟩:=OwnS.cells HB.out.nm.own (by intro e;rw[e] at hi2;simp at hi2);have hcl:=cl i hi2;have hz:(flatL sts')[i]=.slice sts'[i].A sts'[i].l.length sts'[i].c:=by simp[flatL,castL]
   rw[hz] at hcl;have hLA':=hLA;subst hLA';have HIL:=lh (HB.out.nm.il _ (List.getElem_mem hlt));have HTY:=lh (HB.out.nm.ty _ (List.getElem_mem hlt));have HNM:=lh (HB.out.nm.nM _ (List.getElem_mem hlt));have hst:(stsOf sts')[i]'(by rw[stsOf_len];exact hlt)=sts'[i].l:=by simp[stsOf]
   have HZL:=lh (HO2.out.lt _ (List.getElem_mem (by rw[stsOf_len];exact hlt:i<(stsOf sts').length)));rw[hst,insL_len] at HZL;have HST:=lh hst;obtain⟨z,hz9⟩:∃z,z=sts'[i]:=⟨_,rfl⟩
   rw[<-hz9] at hcl HIL HTY HNM HZL HST;have hzl:=HIL.out.len;rw[castL_len] at hzl;clear cl hz hst hz9 hi2;obtain⟨zA,zc,zl⟩:=z
   simp only at hcl HIL HTY HNM HZL HST hzl
   have EX:=Ext.alloc wR (.cells (Array.replicate cs.length (.int .i32 0)) 21);have BX:=Blk.new wR 21 (Array.replicate cs.length (.int .i32 0))
   go_upto_region 6 with fail
   go_upto_region 7 with fail
   obtain⟨gX,hgX⟩:∃gX,gX=wR.heap.size:=⟨_,rfl⟩
   rw[<-hgX] at BX ⊢;have HGX:=lh hgX;clear hgX;generalize wR.alloc (.cells (Array.replicate cs.length (.int .i32 0)) 21)=wy at *;have HBy:=lh (HB.out.extW EX);have HKy:=lh (KpP.trans HK.out (KpP.of_ext EX));have HXy:Hid (KX p.gM wR wy):=lh (KX.of_ext EX);have HRX:Hid (Blk wy gX 21 (kInts (midR (insL hs) cs (stsOf sts') zl 0))):=lh (by
    rw[midR_zero]
    simpa[kInts] using BX)
   have HS0':=lh (midL_zero (insL hs) cs (stsOf sts') zl).symm;have HLE:=lh HO2.out.le;have HP9:=HP;have HGXw:Hid (w0.heap.size<=gX/\wR.heap.size<=gX):=lh (by
    have:=HGX.out;have:=HB.out.ext.size;omega)
   clear EX BX hcl qb5
   go_upto_region 8 with fail
   go_loopw [41] (fun v wm=>∃(k:Nat) (LA2:Option Addr) (Lc2:Nat) (sts2:List Hl) (mk2:Int),v=.int .i64 k/\k<=cs.length/\Hid (BS wm w0 p gA gc hs cs rows mk2 LA2 Lc2 sts2)/\Hid (stsOf sts2=midL (insL hs) cs (stsOf sts') zl k)/\Hid ((stsOf sts2).length<=1024)/\Hid (Blk wm gX 21 (kInts (midR (insL hs) cs (stsOf sts') zl k)))/\Hid (mk2=mk+k)/\Hid (KpP (QE g p) w wm)/\Hid (KX p.gM wR wm)) (fun v _=>cs.length-(intOf v).toNat)
   case atStart=>exact⟨0,_,_,sts',mk,rfl,om,HBy,HS0',HLE,HRX,lh om,HKy,HXy⟩
   case round=>
    obtain⟨k,LA2,Lc2,sts2,mk2,rfl,hk,HB2,HS2,HL2,HX2,HM2,HK2,HKX2⟩:=hrel;clear HBy HKy HXy HRX HS0' HLE;obtain⟨wm,hwm⟩:∃x,x=wr:=⟨_,rfl⟩;subst hwm;by_cases hlt2:k<cs.length
    ·have hkI:(k:Int)<cs.length:=om;have HI2:=lh (KX.lst HKX2.out HIL.out HTY.out HNM.out).1;obtain⟨x,hx⟩:∃x,Hid (cs[k]=x):=⟨_,lh rfl⟩;have HHF:=fun(l:List Sp)=>lh (show hasF cs l k=has l x by rw[<-hx.out];simp[hasF,List.getD_eq_getElem?_getD,hlt2]);have b0:wm.cell? ⟨p.gb,0,none⟩=some (.slice gA hs.length gc):=HB2.out.bb.cell 0;have b1:wm.cell? ⟨p.gb,1,none⟩=some (.slice (some ⟨p.gH,0,none⟩) hs.length hs.length):=HB2.out.bb.cell 1
     go_upto_region 12 with fail
     go_loopw [11,46] (fun v11 v46 wi=>∃(j:Nat) (B:Option Addr) (d:Nat),v46=.int .i64 j/\j<=zl.length/\v11=.slice B (castL (nxUp (insL hs) x zl j)).length d/\Hid (OwnI wi wm.heap.size 3 B d (castL (nxUp (insL hs) x zl j)))/\Ext wm wi) (fun _ v _=>zl.length-(intOf v).toNat)
     case atStart=>exact⟨0,none,0,rfl,om,rfl,lh (OwnS.nil _ _ _ _),Ext.rfl' _⟩
     case round=>
      obtain⟨j,B,d,rfl,hj,rfl,HBB,x1⟩:=hrel;have b0r:=x1.cell b0;have b1r:=x1.cell b1;by_cases hlt3:j<zl.length
      ·have hjI:(j:Int)<zl.length:=om;have hlen2:j<(castL zl).length:=by rw[castL_len];exact hlt3
       obtain⟨fb,fo,hzA,f0⟩:=(HI2.out.ext x1).get hlen2;rw[castL_get hlt3] at f0;have hpc:=HZL.out.1 _ (List.getElem_mem hlt3);have HY:=fun h=>lh (nxUp_yes (G:=insL hs) (c:=x) hlt3 h);have HN:=fun h=>lh (nxUp_no (G:=insL hs) (c:=x) hlt3 h);rw[symAt_get hpc] at HY HN;have HUL:=nxUp_len (insL hs) x zl j;have HZ8:=HZL.out.2;obtain⟨pb,po,hgA,c0,_⟩:=((HP9.out.ext HB2.out.ext).ext x1).get hpc;have HRr:=HRO wr (KpP.trans HK2.out (KpP.of_ext x1));have hrl:=HRr.out.len;have hH:=(HB2.out.bh.ext x1).cellR (i:=zl[j]) (by rw[hrl];exact hpc);have HRB:=lh (HRr.out.ib zl[j] (by rw[hrl];exact hpc) hpc);have HRV:=lh (HRr.out.val zl[j] hpc (by rw[hrl];exact hpc) hpc);unfold cellB at hH;generalize zl[j]=pn at *;have hgA':=hgA;subst hgA';have hzA':=hzA;subst hzA';generalize hs[pn]=hh at *;generalize rows[pn]=rr at *;obtain⟨zop,zx,zy,zn,hA,hc,hl⟩:=hh;obtain⟨rrA,rrc,rrl⟩:=rr
       simp only at c0 hH HRB HRV HY HN
       have HX4:=x1;clear hgA hzA hrl HRr;obtain⟨U,hU⟩:∃U,U=castL (nxUp (insL hs) x zl j):=⟨_,rfl⟩;have hUl:U.length<=8192:=by rw[hU,castL_len];omega
       rw[<-hU] at HBB ⊢;replace hU:=lh hU;by_cases hop:zop=1
       ·subst hop;have hv:=HRV.out;rw[if_pos rfl] at hv;have hrr:rrl.length=cs.length:=by rw[hv,upB_len]
        obtain⟨rb,ro,hrA,crk⟩:=HRB.out.get (k:=k) om;have hbit:rrl[k]'om=has hl x:=by
         rw[<-(HHF hl).out];simp[hv,upB,hlt2]
        rw[hbit] at crk;rw[hrr] at hH;have hrA':=hrA;subst hrA';have hrc:=HRB.out.len;rw[hrr] at hrc;clear hbit hv hrr HRV HRB hrA;by_cases hhs:has hl x=true
        ·rw[hhs] at crk HY;have HYY:=HY si;have HU2:=lh (show castL (nxUp (insL hs) x zl (j+1))=U++[((pn+1:Nat):Int)] by rw[HYY.out,castL_snoc,hU.out]);have ewp:IntKind.i64.wrap ((pn:Int)+1)=(pn:Int)+1:=wj;have ecp:((pn+1:Nat):Int)=(pn:Int)+1:=om;rw[ecp] at HU2;clear HY HN HYY ecp hhs
         go_wp2_with ((at_builtin;refine wpList_app1I rfl _ _ _ rfl 3 infoNk Tryz.underlying22 wm HX4 ((pn:Int)+1) (by first|rfl|simp[ewp]) B d U rfl HBB.out rfl om (castL (nxUp (insL hs) x zl (j+1))) HU2.out ?_;intro B2 d2 w6 hoB x6 hgB hatB))
         go_roundw
         case rel=>exact⟨j+1,B2,d2,by go_num,om,rfl,lh hoB,x6⟩
         case measure=>simp[intOf];omega
        ·have hhs2:has hl x=false:=by simpa using hhs
         rw[hhs2] at crk HN;have HNN:=HN si;have HU2:=lh (show castL (nxUp (insL hs) x zl (j+1))=U by rw[HNN.out,hU.out]);clear HY HN hhs hhs2 HNN;exact Y34z1
       ·have hop2:(zop == 1)=false:=by simp[hop]
        have HNN:=HN (by simp[hop]);have HU2:=lh (show castL (nxUp (insL hs) x zl (j+1))=U by rw[HNN.out,hU.out]);clear HY HN hop HNN HRV;exact Y34z1
      ·have hjI:¬(j:Int)<zl.length:=om;obtain rfl:j=zl.length:=om;have HFS:=lh (nxUp_lt HG.out (c:=x) HZL.out.1 zl.length);obtain⟨S,hS⟩:∃S,Hid (nextG (insL hs) zl x=S):=⟨_,lh rfl⟩;have HSU:=lh (nxUp_all (insL hs) x zl);rw[hS.out] at HSU;have HUL:=lh (nxUp_len (insL hs) x zl zl.length);obtain⟨U,hU⟩:∃U,Hid (nxUp (insL hs) x zl zl.length=U):=⟨_,lh rfl⟩;rw[hU.out] at HFS HSU HBB HUL ⊢;rw[castL_len];have iU:IL wr B d (natsI U):=IL.of_own HBB.out (fun y hy=>by
        obtain⟨q,hq,rfl⟩:=List.mem_map.1 hy;have:=HFS.out q hq;unfold I64;omega)
       have tU:TyI wr B:=fun b hb=>(OwnS.blt HBB.out hb).2;have nU:B.map (·.block)≠some p.gM:=fun e=>by
        have h1:=OwnS.row HBB.out _ e;obtain⟨ms,h5,_⟩:=HB2.out.bm;have:=h5.lt;omega
       have hmk2:0<=mk2/\mk2<=1000000000:=by have:=HM2.out;have:=HMK.out;have:=HO2.out.le;rw[stsOf_len] at this;omega
       have HLC:=HLS2 wr _ _ _ _ (HB2.out.extW x1) hmk2 B d U iU tU nU HFS.out
       rw[<-HSU.out] at HLC;have HSt:=lh (st_lt (insL hs) U)
       rw[<-HSU.out,insL_len] at HSt;clear iU tU nU hmk2 b0 b1 HBB HUL
       go_upto_region 17 with fail
       go_upto_region 18 with fail
       refine HLC.out.mono ?_;rintro e w3 ⟨A3,c3,rfl,iA,tA,nA3,B3,K3,X3⟩;have HB3:=lh B3;have HK3:=lh (KpP.chain (KpP.trans HK2.out (KpP.of_ext x1)) K3 (fun i hi=>.inl (hi.elim (fun e=>.inr (.inl e)) (fun e=>.inr (.inr (.inl e))))));have HX3:=lh (KX.trans (KX.of_ext x1) X3);clear HLC B3 K3 X3
       go_upto_region 18 with fail
       refine(numS_any HB3.out (by have:=HL2.out;rw[stsOf_len] at this;omega) A3 c3 S iA (by have:=HSt.out.2;omega) (fun i hi=>by have:=HSt.out.1 i hi;omega) tA nA3).mono ?_;rintro e w4 ⟨LA4,Lc4,sts4,rfl,hst4,B4,K4,X4⟩;have HB4:=lh B4;have HK4:=lh (KpP.chain HK3.out K4 (fun i hi=>by
        exact Y34z2))
       have HX4:=lh (KX.trans HX3.out X4);have HS4:Hid (stsOf sts4=midL (insL hs) cs (stsOf sts') zl (k+1)):=lh (by
        rw[hst4,midL_succ _ _ _ _ hlt2,HS2.out,hx.out,hS.out])
       have HR4:=lh (midR_succ (insL hs) cs (stsOf sts') zl hlt2)
       rw[<-HS4.out,hx.out,hS.out] at HR4;have HXB4:=lh (HX4.out.blkK HX2.out);generalize idx (stsOf sts4) S=v4 at *;have hmr:=midR_len (insL hs) cs (stsOf sts') zl k;have q4:=HXB4.out.cellK (i:=k) (by rw[hmr];exact hlt2);have f4:=HXB4.out.frz k;generalize (midR (insL hs) cs (stsOf sts') zl k)[k]=y4 at *;clear HX3 HK3 HB3 iA tA nA3 hst4 B4 K4 X4 hmr
       go_upto_region 18 with fail
       have k5:KpP (·=gX) w4 (w4.setCell ⟨gX,k,none⟩ (.int .i32 v4)):=KpP.set (p:=(·=gX)) (x:=⟨gX,k,none⟩) (KpP.refl _ _) (.inl rfl) _;have HK5:=lh (KpP.chain HK4.out k5 (fun i hi=>.inr (by
        have e:i=gX:=hi;have:=HGXw.out;have:=HK.out.size;omega)))
       have HB5:=lh (HB4.out.far k5 (fun b hb=>by
        have e:b=gX:=hb;subst e;exact⟨⟨_,_,HXB4.out,by decide⟩,HGXw.out.1⟩) (HRO _ HK5.out).out)
       have HX5:=lh ((KX.trans HKX2.out HX4.out).thenNew k5 (fun i hi=>by
        have e:i=gX:=hi;have:=HGXw.out;omega))
       have HXB5:=HXB4.out.set k (.int .i32 v4);rw[kInts_set,HR4.out] at HXB5;replace HXB5:=lh HXB5;generalize w4.setCell ⟨gX,k,none⟩ (.int .i32 v4)=w5 at *;clear k5 HB4 HK4 HX4 HXB4 q4 f4 HR4;have q5:w5.cell? ⟨p.gb,5,none⟩=some (.slice LA4 sts4.length Lc4):=HB5.out.bb.cell 5;have hl4:sts4.length<=100000:=by
        have h1:=HS4.out;rw[midL_succ _ _ _ _ hlt2,<-HS2.out] at h1;have h2:=congrArg List.length h1;rw[stsOf_len] at h2;have h3:=HL2.out;have h4:(grow (stsOf sts2) (nextG (insL hs) zl cs[k])).length<=(stsOf sts2).length+1:=by
         unfold grow;split
         ·omega
         ·simp
        omega
       by_cases hov:1024<sts4.length
       ·have hovI:(1024:Int)<sts4.length:=om;have HOV:Hid (RES=none):=lh (by
         refine HO2.out.over (by rw[stsOf_len];exact hlt) (k:=k+1) ?_;rw[HST.out,<-HS4.out,stsOf_len];exact hov)
        have HE5:=lh HB5.out.ext;clear HB5 HX5 HXB5 HK5
        go_wp2_with fail
        go_ret
        exact .inl ⟨HOV.out,rfl,HE5.out⟩
       ·have hovI:¬(1024:Int)<sts4.length:=om
        go_wp2_with fail
        go_roundw
        case rel=>exact⟨k+1,LA4,Lc4,sts4,mk2+1,by go_num,om,HB5,HS4,lh (by rw[stsOf_len];omega),HXB5,lh (by have:=HM2.out;omega),HK5,HX5⟩
        case measure=>simp[intOf];omega
    ·have hkI:¬(k:Int)<cs.length:=om;obtain rfl:k=cs.length:=om;have HMm:=lh (HM.out.kx HKX2.out);have hil:=KX.lst HKX2.out HIL.out HTY.out HNM.out;have HILm:=lh hil.1;have HTYm:=lh hil.2;have hrl:=midR_len (insL hs) cs (stsOf sts') zl cs.length;have HRA:=lh (midR_all (insL hs) cs (stsOf sts') zl);have HS3:Hid (stsOf sts2=growAll (cs.map (nextG (insL hs) zl)) (stsOf sts')):=lh (by rw[HS2.out,midL_all]);obtain⟨row,hrow⟩:∃row,Hid (midR (insL hs) cs (stsOf sts') zl cs.length=row):=⟨_,lh rfl⟩;rw[hrow.out] at HX2 hrl HRA;have HR32:Hid (∀x∈row,I32 x):=lh (fun x hx=>by
      rw[HRA.out] at hx;obtain⟨c,_,rfl⟩:=List.mem_map.1 hx;have h3:=HL2.out;rw[HS3.out] at h3;unfold idx I32
      split
      ·omega
      ·have:=List.idxOf_le_length (a:=nextG (insL hs) zl c) (l:=growAll (cs.map (nextG (insL hs) zl)) (stsOf sts'));omega)
     have hn3:nxt.length<=1100:=by
      have h1:=congrArg List.length HO2.out.nx;have h2:=HO2.out.le;have h4:=HO2.out.il;rw[rowsOf_len,List.length_map,List.length_take] at h1;omega
     have hd3:dn.length<=1100:=by
      have h1:=congrArg List.length HO2.out.dn;have h2:=HO2.out.le;have h4:=HO2.out.il;rw[List.length_map,List.length_take] at h1;omega
     have HGD:Hid (zl≠[]):=lh (fun e=>HO2.out.good.2 (by rw[<-e,<-HST.out];exact List.getElem_mem _));obtain⟨iR,jR0,jR1,jR2,jR3⟩:=info_parts infoR32;have EP:=Ext.alloc wm (.cells #[.slice (some ⟨gX,0,none⟩) cs.length cs.length] 197);have c3:wm.cell? ⟨g,3,none⟩=some (.slice nA nxt.length nc):=HMm.out.blk.cell 3;have hxw:xb<=wm.heap.size:=by have:=HK2.out.size;have:=HXB.out;omega
     have HBL:=fun(w8:World) (hg:(wm.alloc (.cells #[.slice (some ⟨gX,0,none⟩) cs.length cs.length] 197)).grownBy w8 (nA.map (·.block)))=>(KpP.of_grown hg).blk (HMm.out.blk.ext EP) (own_blk (OwnS.ext HMm.out.own EP) (HMm.out.blk.ext EP) de);clear hil HKX2 HM HIL HTY HNM HS2
     go_upto_region 22 with(at_builtin;refine wpList_app _ rfl _ _ _ rfl xb 197 iR (.slice none 0 0) 1 24 Tryz.underlying143 jR0 jR1 jR2 jR3 rfl om nA nxt.length nc (flatKr nxt) rfl (OwnS.ext HMm.out.own (Ext.alloc _ _)) _ 1 1 [.slice (some ⟨gX,0,none⟩) cs.length cs.length] rfl rfl (blk_cells (Blk.new _ _ _)) (by intro u hu;simp only[List.mem_cons,List.not_mem_nil,or_false] at hu;rcases hu with rfl;rfl) um om (Nat.le_trans hxw (Ext.alloc _ _).size) ?_;intro A8 c8 w8 ho8 hg8 hat8;have cl8:=(HBL w8 hg8).cell 3;have fl8:=(HBL w8 hg8).frz 3)
     have K21:=kpp_app g 3 hg8 (Ext.rfl' w8) (.slice A8 (nxt.length+1) c8);have e21:(OwnS w8 xb 197 1 A8 (nxt.length+1) c8 (flatKr nxt++[.slice (some ⟨gX,0,none⟩) row.length row.length])):=by rw[hrl];exact ho8
     have HM21:=lh ((HMm.out.ext EP).row (HX2.out.ext EP) HR32.out um rfl hg8 (Ext.rfl' w8) e21);have hq21:∀b,(nA.map (·.block)=some b\/b=g)->b=g\/(xb<=b):=fun b hb=>hb.elim (fun h=>.inr (OwnS.row HMm.out.own b h)) .inl;have HK21:Hid (KpP (QE g p) w (w8.setCell ⟨g,3,none⟩ (.slice A8 (nxt.length+1) c8))):=lh (KpP.chain (KpP.trans HK2.out (KpP.of_ext EP)) K21 (fun b hb=>(hq21 b hb).elim (fun e=>.inl (.inl e)) (fun h=>.inr (by rw[<-HXB.out];exact h))));have HB21:=lh ((HB2.out.extW EP).mac (OwnS.ext HMm.out.own EP) de hw0 (HMm.out.blk.ext EP) hg K21 (HRO _ HK21.out).out);have hqI:∀b,(nA.map (·.block)=some b\/b=g)->∀cur,(wm.alloc (.cells #[.slice (some ⟨gX,0,none⟩) cs.length cs.length] 197)).heap[b]?≠some (.cells cur 3 (0,0)):=fun b hb=>by
      rcases hb with hb|rfl
      ·exact own_notT (OwnS.ext HMm.out.own EP) de hb
      ·exact fun cur=>blk_notI (HMm.out.blk.ext EP) de _ rfl cur
     have HIL21:=lh (IL.kpT (HILm.out.ext EP) (HTYm.out.ext EP) K21 hqI);have HTY21:=lh ((HTYm.out.ext EP).kp K21 hqI);have EB:=lh ((HB2.out.extW EP));clear HMm HILm HTYm c3 HBL cl8 fl8 ho8 hg8 hat8 K21 e21 hq21 hqI EP EB HX2 HK2 HB2 hxw;generalize w8.setCell ⟨g,3,none⟩ (.slice A8 (nxt.length+1) c8)=wy at *;have hne:=HGD.out;have hzl0:0<zl.length:=List.length_pos_iff.2 hne;have hlast:=(HIL21.out).get (k:=zl.length-1) (by rw[castL_len];omega);rw[castL_get om] at hlast;obtain⟨fb,fo,hzA,f0⟩:=hlast;have hpc:=HZL.out.1 _ (List.getElem_mem (show zl.length-1<zl.length by omega));have HDN:=lh (show doneG (insL hs) zl=decide (hs[zl[zl.length-1]].op=0) by
      rw[doneG_last hne,List.getLast_eq_getElem,isD_get hpc])
     obtain⟨pb,po,hgA,c0,_⟩:=(HP9.out.ext HB21.out.ext).get hpc;have hpc':=hpc;generalize zl[zl.length-1]=pn at *;have hgA':=hgA;subst hgA';have hzA':=hzA;subst hzA';clear hgA hzA;have ewl:IntKind.i64.wrap ((zl.length:Int)-1)=(zl.length:Int)-1:=wj;have e1:(zl.length:Int)-1=((zl.length-1:Nat):Int):=om;rw[e1] at ewl;have hlI:((zl.length-1:Nat):Int)<zl.length:=om;have hpcI:(pn:Int)<hs.length:=om;have c4:wy.cell? ⟨g,4,none⟩=some (.slice dA dn.length dc):=HM21.out.blk.cell 4;have cb0:wy.cell? ⟨p.gb,0,none⟩=some (.slice (some ⟨pb,po,none⟩) hs.length gc):=HB21.out.bb.cell 0;generalize hs[pn]=hh at *;have hgb:p.gb≠g:=blk_blk HB21.out.bb HM21.out.blk de;have hgbd:dA.map (·.block)≠some p.gb:=own_blk HM21.out.od HB21.out.bb de;have hgd:dA.map (·.block)≠some g:=own_blk HM21.out.od HM21.out.blk de;have hfbT:=(HTY21.out fb rfl);have hfb:fb≠g:=fun e=>by
      obtain⟨cur,hh⟩:=hfbT;rw[e] at hh;exact blk_notI HM21.out.blk de _ rfl cur hh
     have hfbd:dA.map (·.block)≠some fb:=fun e=>by
      obtain⟨cur,hh⟩:=hfbT;exact own_notI HM21.out.od de fb e cur hh
     have hpbl:pb<w0.heap.size:=by
      obtain⟨pb',po',e',c',_⟩:=HP9.out.get hpc';obtain⟨rfl,rfl⟩:pb=pb'/\po=po':=by simpa using e'
      exact World.block_lt_of_cell? _ _ c'
     have hpb:pb≠g:=om;have hpbd:dA.map (·.block)≠some pb:=fun e=>by have:=OwnS.row HM21.out.od pb e;omega
     have j1:=fun(w':World) (h:Kp (g::blkO dA) wy w')=>h.cell cb0 (by simp[blkO_mem,hgb,hgbd]);have j2:=fun(w':World) (h:Kp (g::blkO dA) wy w')=>h.cell f0 (by simp[blkO_mem,hfb,hfbd]);have j3:=fun(w':World) (h:Kp (g::blkO dA) wy w')=>h.cell c0 (by simp[blkO_mem,hpb,hpbd]);clear hfbT;refine Xr.start (g::blkO dA) kr ?_;refine Xtk 0 ?_
     iterate 3(refine Xtn ?_)
     refine Xtk 5 ?_
     iterate 13(refine Xtn ?_)
     have hbool:Tryz.prog.underlying 81=some (.slice 4):=Tryz.underlying81;refine Xr.lazy 19 121 20 (fun q=>.slice (some ⟨q,0,none⟩) 1 1) 4 #[.bool (hh.op == 0)] rfl (fun b hb=>?_) dK si (fun w'=>by go_simp) ?_
     ·rcases List.mem_cons.1 hb with rfl|hb
      ·exact HM21.out.blk.lt
      ·exact(OwnS.blt HM21.out.od (blkO_mem.1 hb)).1
     refine Xsp 4 fun w4 hE4 hK4 K hKK=>?_;have c44:=hE4.cell c4;go_simp;refine hKK _ _ (WI_refl _ _ _) hK4 ?_;clear hKK c44;refine ptm ?_;refine Xr.stepZ rfl dK (fun _=>by rfl) (fun w5 g5 hE5 hK5 hg5 hB5 hno K hKK=>?_);have x5:=hE4.trans hE5;obtain⟨iB,jB0,jB1,jB2,jB3⟩:=info_parts infoBo;have HM25:=lh (HM21.out.ext x5);refine wp_app _ _ _ _ rfl xb 4 iB (.bool false) 1 1 hbool jB0 jB1 jB2 jB3 rfl om dA dn.length dc (dn.map Value.bool) rfl HM25.out.od _ 1 1 [.bool (hh.op == 0)] rfl rfl (blk_cells hB5) (by intro u hu;simp only[List.mem_cons,List.not_mem_nil,or_false] at hu;rcases hu with rfl;rfl) um om (by have:=x5.size;have:=HK21.out.size;have:=HXB.out;omega) ?_;intro A9 c9 w9 ho9 hg9 hat9;refine hKK _ _ (WI_kp (KpP.of_grown hg9) (fun i hi=>List.mem_cons_of_mem _ (blkO_mem.2 hi))) (hK5.kpP (KpP.of_grown hg9) (fun i hi=>List.mem_cons_of_mem _ (blkO_mem.2 hi))) ?_;clear hKK;refine ptm ?_;refine Xtk 21 ?_;refine Xtn ?_;have bg9:=(KpP.of_grown hg9).blk HM25.out.blk (own_blk HM25.out.od HM25.out.blk de);refine Xsp 23 fun w10 hE10 hK10 K hKK=>?_;have cg10:=(bg9.ext hE10).cell 4;have fg10:=(bg9.ext hE10).frz 4;go_simp;refine hKK _ _ (WI_setL (WI_refl _ _ _) List.mem_cons_self _ _) (hK10.setL List.mem_cons_self _ _) ?_;clear hKK;refine ptm ?_;refine Xdn fun w11 hE11 hK11=>?_;have HXO:Hid ((hh.op == 0)=doneG (insL hs) zl):=lh (by rw[HDN.out];by_cases h:hh.op=0<;>simp[h]);have K11:=kpp_app g 4 hg9 hE10 (.slice A9 (dn.length+1) c9);have HM11:=lh ((HM25.out.put (v:=.slice A9 (dn.length+1) c9) rfl hg9 hE10 ho9).ext hE11)
     have hq11:∀b,(dA.map (·.block)=some b\/b=g)->b=g\/(xb<=b):=fun b hb=>hb.elim (fun h=>.inr (OwnS.row HM25.out.od b h)) .inl;have hk10:KpP (QE g p) w (w10.setCell ⟨g,4,none⟩ (.slice A9 (dn.length+1) c9)):=KpP.chain (KpP.trans HK21.out (KpP.of_ext x5)) K11 (fun b hb=>(hq11 b hb).elim (fun e=>.inl (.inl e)) (fun h=>.inr (by rw[<-HXB.out];exact h)));have HK11:Hid (KpP (QE g p) w w11):=lh (hk10.trans (KpP.of_ext hE11));have HB11:=lh (((HB21.out.extW x5).mac HM25.out.od de hw0 HM25.out.blk hg K11 (HRO _ hk10).out).extW hE11);have HO11:Hid (OutI (insL hs) cs RES (stsOf sts2) (i+1) fs0 (rowsOf (nxt++[⟨some ⟨gX,0,none⟩,row.length,row⟩])) (dn++[hh.op == 0])):=lh (by
      have h:=HO2.out.step (by rw[stsOf_len];exact hlt) (by rw[HST.out,<-HS3.out];exact HL2.out);rw[HST.out,<-HS3.out] at h;have e1:rowsOf (nxt++[(⟨some ⟨gX,0,none⟩,row.length,row⟩:Kr)])=rowsOf nxt++[row]:=by simp[rowsOf]
      have e2:row=cs.map (fun c=>idx (stsOf sts2) (nextG (insL hs) zl c)):=by rw[HRA.out,HS3.out]
      rw[e1,HXO.out,e2];exact h)
     have hi10:i<=1024:=by have:=HO2.out.il;have:=HO2.out.le;omega
     have HMK2:Hid (1<=mk2/\mk2<=200+10000*((i+1:Nat):Int)):=lh (by have:=HM2.out;have:=HMK.out;omega);clear K11 hq11 hk10 HM25 HM21 HB21 HK21 x5 hE4 hK4 hE5 hK5 hE10 hK10 hE11 hK11 cg10 fg10 bg9 ho9 hg9 hat9 hB5 hno hg5 j1 j2 j3 c4 cb0 f0 c0
     go_wp2_with fail
     go_roundw
     case rel=>exact⟨i+1,LA2,Lc2,sts2,mk2,A8,c8,nxt++[⟨some ⟨gX,0,none⟩,row.length,row⟩],A9,c9,dn++[hh.op == 0],by go_num,HB11,HM11,HO11,HMK2,HK11⟩
     case measure=>simp[intOf];omega
  ·have hiI:¬(i:Int)<sts'.length:=om;have hfin:=HO2.out.fin (by rw[stsOf_len];exact hlt);have HFN:=lh hfin;have hil:=HO2.out.il;rw[stsOf_len] at hil;have HE:=lh HB.out.ext;have hie:i=(stsOf sts').length:=by rw[stsOf_len];omega
   have HIE:=lh hie;clear hfin hil hie
   go_wp2_with fail
   go_ret
   refine .inr ⟨stsOf sts',fs0,nA,nc,nxt,dA,dc,dn,HFN.out,rfl,HE.out,HM.out,?_⟩;have h:=HO2.out;rw[HFN.out,HIE.out] at h;exact h
end
end Go.Proofs.YtmpcoifnpflapaaGreat
