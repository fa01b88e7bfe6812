/- Texts of this proof: J6 J7. -/
import Derived.Test.YtmocoldobnimfaaGreatMS11
set_option linter.all false
set_option maxRecDepth 100000
set_option maxHeartbeats 16000000
namespace Go.Proofs.YtmocoldobnimfaaGreat
section
open Go.RowKit
attribute [local go_sem ↓] Go.wp_at_zero Go.wp_at_succ
theorem MkM.put4 {w w0:World}{gm:Nat}{A:Option Addr}{c:Nat}{ls:List Int}{uses B left caps:Int}(x:Ext w0 w)(il:IL w0 A c ls)(lo:w0.heap.size<=gm)(at_:Nat)(hb:Blk w gm 251 (mkC A ls.length c (at_:Int) uses left caps))(h5:(at_:Int)<=B)(h6 : -B<=left)(h7:left<=1000)(v:Int)(h0:0<=v)(h1:v<=4) :
 MkM (w.setCell ⟨gm,4,none⟩ (.int .i64 v)) w0 gm A c ls uses B:=by
 refine⟨x.setNew (p:=⟨gm,4,none⟩) lo _,il,lo,at_,left,v,?_,h5,h6,h7,h0,h1⟩;have b:=hb.set 4 (.int .i64 v)
 simpa[mkC] using b
theorem XQ {bd d:Nat}{w w5:World}{gr:Nat}(n:Nd)(hok:MK bd n)(hsl:SL w5 n.A n.c n.l)(hle:n.ks.length<=n.kc)(hcap:n.kc<=maxLen)(hc:QP w5 n.K (n.ks.flatMap Q8))(ht:∀u∈n.ks,Qx bd (fun k=>w.heap.size<=k/\k≠gr) w5 d u)
 (hA:n.l≠[]->∀k,n.A.map (·.block)=some k->w.heap.size<=k/\k≠gr) (hK:n.ks≠[]->∀k,n.K.map (·.block)=some k->w.heap.size<=k/\k≠gr):Qx bd (fun k=>w.heap.size<=k) (WW w5 gr n) (d+1) n.val:=by
 have k:=WV (p:=(·=gr)) (KpP.refl _ w5) (g:=gr) (.inl rfl) n;refine .mk n hok (hsl.kpZ k (fun hn b hb e=>(hA hn b hb).2 e)) hle hcap ?_ (fun u hu=>((ht u hu).kp k (fun i hi hs=>hs.2 hi)).imp (fun k hk _=>hk.1)) (fun hn b hb=>(hA hn b hb).1) (fun hn b hb=>(hK hn b hb).1);intro hx;have hn:n.ks≠[]:=by intro e;rw[e] at hx;exact hx rfl
 exact(hc.kpZ k (fun b hb e=>(hK hn b hb).2 e)) hx
theorem MT {P:Prop} (h:P:=by
 clear cb4 fb4
 go_wp2_with (go_at_call 149;refine(HIH.out wc _ HM5.out om).mono ?_;rintro e w4 ⟨v,rfl,hv,M4,K4⟩;obtain⟨nd,hnd,_⟩:=hv.node;subst hnd;have HV:=lh hv;have HM4:=lh M4;have HK4:=lh (HK5.out.trans K4);have hr4:=K4.blk HR5.out hgne.symm;obtain⟨f0,f1,f2,f3,f4,f5,f6,f7⟩:=Kj (hr4.ext (Ext.alloc w4 (.cells #[.int .i64 nd.op,.slice nd.A nd.l.length nd.c,.slice nd.K nd.ks.length nd.kc,.int .i64 nd.mn,.int .i64 nd.mx,.int .i64 nd.md,.int .i64 nd.n,.bool nd.neg] 26)));have HR4:=lh hr4;have z0:=(hr4.ext (Ext.alloc w4 (.cells #[.int .i64 nd.op,.slice nd.A nd.l.length nd.c,.slice nd.K nd.ks.length nd.kc,.int .i64 nd.mn,.int .i64 nd.mx,.int .i64 nd.md,.int .i64 nd.n,.bool nd.neg] 26))).cell 0;have z1:=(hr4.ext (Ext.alloc w4 (.cells #[.int .i64 nd.op,.slice nd.A nd.l.length nd.c,.slice nd.K nd.ks.length nd.kc,.int .i64 nd.mn,.int .i64 nd.mx,.int .i64 nd.md,.int .i64 nd.n,.bool nd.neg] 26))).cell 1;have z2:=(hr4.ext (Ext.alloc w4 (.cells #[.int .i64 nd.op,.slice nd.A nd.l.length nd.c,.slice nd.K nd.ks.length nd.kc,.int .i64 nd.mn,.int .i64 nd.mx,.int .i64 nd.md,.int .i64 nd.n,.bool nd.neg] 26))).cell 2;have z3:=(hr4.ext (Ext.alloc w4 (.cells #[.int .i64 nd.op,.slice nd.A nd.l.length nd.c,.slice nd.K nd.ks.length nd.kc,.int .i64 nd.mn,.int .i64 nd.mx,.int .i64 nd.md,.int .i64 nd.n,.bool nd.neg] 26))).cell 3;have z4:=(hr4.ext (Ext.alloc w4 (.cells #[.int .i64 nd.op,.slice nd.A nd.l.length nd.c,.slice nd.K nd.ks.length nd.kc,.int .i64 nd.mn,.int .i64 nd.mx,.int .i64 nd.md,.int .i64 nd.n,.bool nd.neg] 26))).cell 4;have z5:=(hr4.ext (Ext.alloc w4 (.cells #[.int .i64 nd.op,.slice nd.A nd.l.length nd.c,.slice nd.K nd.ks.length nd.kc,.int .i64 nd.mn,.int .i64 nd.mx,.int .i64 nd.md,.int .i64 nd.n,.bool nd.neg] 26))).cell 5;have z6:=(hr4.ext (Ext.alloc w4 (.cells #[.int .i64 nd.op,.slice nd.A nd.l.length nd.c,.slice nd.K nd.ks.length nd.kc,.int .i64 nd.mn,.int .i64 nd.mx,.int .i64 nd.md,.int .i64 nd.n,.bool nd.neg] 26))).cell 6;have z7:=(hr4.ext (Ext.alloc w4 (.cells #[.int .i64 nd.op,.slice nd.A nd.l.length nd.c,.slice nd.K nd.ks.length nd.kc,.int .i64 nd.mn,.int .i64 nd.mx,.int .i64 nd.md,.int .i64 nd.n,.bool nd.neg] 26))).cell 7;clear hv M4 hr4;unfold Nd.val)
 have HB5:Hid (Blk (w4.alloc (.cells #[.int .i64 nd.op,.slice nd.A nd.l.length nd.c,.slice nd.K nd.ks.length nd.kc,.int .i64 nd.mn,.int .i64 nd.mx,.int .i64 nd.md,.int .i64 nd.n,.bool nd.neg] 26)) w4.heap.size 26 nd.cs.toArray):=lh (Blk.new w4 26 #[.int .i64 nd.op,.slice nd.A nd.l.length nd.c,.slice nd.K nd.ks.length nd.kc,.int .i64 nd.mn,.int .i64 nd.mx,.int .i64 nd.md,.int .i64 nd.n,.bool nd.neg]);have E5:=Ext.alloc w4 (.cells #[.int .i64 nd.op,.slice nd.A nd.l.length nd.c,.slice nd.K nd.ks.length nd.kc,.int .i64 nd.mn,.int .i64 nd.mx,.int .i64 nd.md,.int .i64 nd.n,.bool nd.neg] 26);have hgr4:gr<w4.heap.size:=HR4.out.lt;have hgc4:gr<wc.heap.size:=HR5.out.lt;have hsw4:=HK4.out.size;generalize w4.alloc (.cells #[.int .i64 nd.op,.slice nd.A nd.l.length nd.c,.slice nd.K nd.ks.length nd.kc,.int .i64 nd.mn,.int .i64 nd.mx,.int .i64 nd.md,.int .i64 nd.n,.bool nd.neg] 26)=w5 at *;have HT9:Hid (Qx 3 (fun k=>w.heap.size<=k) (WW w5 gr ⟨5,none,0,[],some ⟨w4.heap.size,0,none⟩,1,[nd.val],0,0,0,nv,false⟩) (d+2) (Nd.val ⟨5,none,0,[],some ⟨w4.heap.size,0,none⟩,1,[nd.val],0,0,0,nv,false⟩)):=lh (by
  refine XQ _ ⟨by simp,by simp,by simp,by simp,by simp,by simp,by simp,by simp,⟨by simp only;omega,by simp only;omega⟩,by simp[Vv]⟩ (SL.nil _) si (by show 1<=maxLen;unfold maxLen;omega) ?_ (fun u hu=>?_) si (fun _ k hk=>?_)
  ·simp only[List.flatMap_cons,List.flatMap_nil,List.append_nil];exact QC HB5.out
  ·obtain rfl:u=nd.val:=by simpa using hu
   exact(HV.out.ext E5).imp (fun k hk _=>by have:=HK5.out.size;omega)
  ·have:w4.heap.size=k:=by simpa using hk
   omega)
 have hb9:=ZI (HR4.out.ext E5) ⟨5,none,0,[],some ⟨w4.heap.size,0,none⟩,1,[nd.val],0,0,0,nv,false⟩;have hk9:=WV (p:=(·=gm)) (HK4.out.trans (KpP.of_ext E5)) (g:=gr) (.inr hgw) ⟨5,none,0,[],some ⟨w4.heap.size,0,none⟩,1,[nd.val],0,0,0,nv,false⟩;have M9:=(HM4.out.extW E5).kpR (WV (p:=(·=gr)) (KpP.refl _ w5) (g:=gr) (.inl rfl) ⟨5,none,0,[],some ⟨w4.heap.size,0,none⟩,1,[nd.val],0,0,0,nv,false⟩) hgne (by have:=HSW.out;omega);change bodyPost _ _ _ _ _ (WW w5 gr ⟨5,none,0,[],some ⟨w4.heap.size,0,none⟩,1,[nd.val],0,0,0,nv,false⟩);generalize WW w5 gr ⟨5,none,0,[],some ⟨w4.heap.size,0,none⟩,1,[nd.val],0,0,0,nv,false⟩=w9 at *;obtain⟨r0,r1,r2,r3,r4,r5,r6,r7⟩:=Wk hb9;simp only[List.length_nil,List.length_cons,Nat.zero_add] at r1 r2;clear f0 f1 f2 f3 f4 f5 f6 f7 z0 z1 z2 z3 z4 z5 z6 z7;refine bodyPost_ret (v:=Nd.val ⟨5,none,0,[],some ⟨w4.heap.size,0,none⟩,1,[nd.val],0,0,0,nv,false⟩) (by simp[results,Tryz.results188,go_sem,r0,r1,r2,r3,r4,r5,r6,r7,Nd.val]) rfl ⟨_,rfl,HT9.out,M9.mono om,hk9⟩):P:=h
theorem fw {P:Prop} (h:P:=by
 have HK5:Hid (KpP (·=gm) w (wb.setCell ⟨gm,4,none⟩ (.int .i64 caps))):=lh (KpP.set (p:=(·=gm)) (x:=⟨gm,4,none⟩) HKb.out (.inl rfl) _);have HR5:=lh (HRb.out.far (p:=⟨gm,4,none⟩) hgne.symm (.int .i64 caps));generalize wb.setCell ⟨gm,4,none⟩ (.int .i64 caps)=wc at *;exact MT):P:=h
theorem TV (d:Nat)(w0:World)(gm:Nat)(A:Option Addr)(c:Nat)(ls:List Int)(uses:Int)(hd:d<=100)
 (IH:∀(w:World) (B:Int),MkM w w0 gm A c ls uses B->B+ZB d<=100000000->Calls Tryz.prog 149 #[.pointer (some ⟨gm,0,none⟩),.int .i64 d] w (Yv 3 (d+1) w0 gm A c ls uses (B+ZB d) w))
 (w:World) (B:Int) (h:MkM w w0 gm A c ls uses B) (hB:B+ZB d+2<=100000000) :
 Calls Tryz.prog 188 #[.pointer (some ⟨gm,0,none⟩),.int .i64 ((d:Int)+1)] w (Yv 3 (d+2) w0 gm A c ls uses (B+ZB d+2) w):=by
 obtain⟨x0,il,lo,at_,left,caps,hb,hat,hl1,hl2,hc1,hc2⟩:=h;have hgm:=hb.lt;have HSW:=lh x0.size;have hT:=YK d;generalize ZB d=T at *;have HIH:=lh IH;have ewd:IntKind.i64.wrap ((d:Int)+1-1)=(d:Int):=wj;have EX:=Ext.alloc w (.cells #[.int .i64 0,.slice none 0 0,.slice none 0 0,.int .i64 0,.int .i64 0,.int .i64 0,.int .i64 0,.bool false] 26);have HR:=lh (Blk.new w 26 #[.int .i64 0,.slice none 0 0,.slice none 0 0,.int .i64 0,.int .i64 0,.int .i64 0,.int .i64 0,.bool false]);have hba:=hb.ext EX;have xa:=x0.trans EX;clear IH hb;go_enter Tryz.func188,Tryz.ntmps188
 go_upto_region 1 with fail
 obtain⟨gr,hgr⟩:∃gr,gr=w.heap.size:=⟨_,rfl⟩
 rw[<-hgr] at HR ⊢;have hgw:w.heap.size<=gr:=om;have hgne:gm≠gr:=om;clear hgr;generalize w.alloc (.cells #[.int .i64 0,.slice none 0 0,.slice none 0 0,.int .i64 0,.int .i64 0,.int .i64 0,.int .i64 0,.bool false] 26)=wa at *;have HKa:Hid (KpP (·=gm) w wa):=lh (KpP.of_ext EX);have ca4:wa.cell? ⟨gm,4,none⟩=some (.int .i64 caps):=hba.cell 4;clear EX
 go_upto_region 2 with fail
 have hcw:IntKind.i64.wrap (caps+1)=caps+1:=wj;by_cases h4:4<caps+1
 ·have h4t:decide (4<caps+1)=true:=by simp[h4]
  go_upto_region 3 with fail
  go_upto_region 4 with(go_at_call 184;refine(YZ w0 _ gm A c ls uses caps xa il lo at_ left caps (by simpa using hba) om om om).mono ?_;rintro e wb ⟨rfl,Hbb,Xb,Kb⟩;have hy:=VX ls at_ caps om;generalize pick ls at_ caps=y at *;have ewy:IntKind.i64.wrap (1+y)=1+y:=(by rw[IntKind.wrap_i64];omega))
  have HKb:=lh (HKa.out.trans Kb);have HRb:=lh (Kb.blk HR.out hgne.symm);obtain⟨nv,hnv⟩:∃nv:Int,nv=1+y:=⟨_,rfl⟩
  rw[<-hnv];have hn0:1<=nv/\nv<=4:=om;have hq:nv<=caps:=om;clear hnv;have cb4:wb.cell? ⟨gm,4,none⟩=some (.int .i64 caps):=(show Blk wb gm 251 (mkC A ls.length c ((at_+1:Nat):Int) uses left caps) by simpa using Hbb).cell 4;have fb4:=(show Blk wb gm 251 (mkC A ls.length c ((at_+1:Nat):Int) uses left caps) by simpa using Hbb).frz 4
  go_upto_region 5 with fail
  have HM5:=lh (MkM.put4 Xb il lo (at_+1) (show Blk wb gm 251 (mkC A ls.length c ((at_+1:Nat):Int) uses left caps) by simpa using Hbb) (B:=B+2) om om hl2 caps om om);exact fw
 ·have h4f:decide (4<caps+1)=false:=by simp;omega
  by_cases hc0:0<caps
  ·have hct:decide (0<caps)=true:=by simp[hc0]
   have hx:=VX ls at_ 9 om;have HC9:=lh (YZ w0 wa gm A c ls uses 9 xa il lo at_ left caps hba om om om);by_cases hx0:pick ls at_ 9=0
   ·rw[hx0] at HC9;clear hx0 hx
    go_upto_region 3 with(go_at_call 184;refine HC9.out.mono ?_;rintro e w3 ⟨rfl,Hb3,X3,K3⟩)
    have HK3:=lh (HKa.out.trans K3);have HR3:=lh (K3.blk HR.out hgne.symm);have cc4:w3.cell? ⟨gm,4,none⟩=some (.int .i64 caps):=Hb3.cell 4;obtain⟨a3,ha3⟩:∃a3:Nat,a3=at_+1:=⟨_,rfl⟩;have Hb3':Blk w3 gm 251 (mkC A ls.length c (a3:Int) uses left caps):=by rw[ha3];simpa using Hb3
    have ha4:(a3:Int)<=100000000/\(a3:Int)+1<=B+2:=om;clear ca4 Hb3 ha3 hba;by_cases hm1:caps<=1
    ·obtain rfl:caps=1:=om
     go_upto_region 4 with(go_at_call 184;refine(YZ w0 _ gm A c ls uses 1 X3 il lo a3 left 1 (by simpa using Hb3') om om om).mono ?_;rintro e wb ⟨rfl,Hbb,Xb,Kb⟩;have hy:=VX ls a3 1 om;generalize pick ls a3 1=y at *;have ewy:IntKind.i64.wrap (1+y)=1+y:=(by rw[IntKind.wrap_i64];omega))
     have HKb:=lh (HK3.out.trans Kb);have HRb:=lh (Kb.blk HR3.out hgne.symm);obtain⟨nv,hnv⟩:∃nv:Int,nv=1+y:=⟨_,rfl⟩
     rw[<-hnv];have hn0:1<=nv/\nv<=4:=om;have hq:nv<=1:=om;clear hnv;have cb4:wb.cell? ⟨gm,4,none⟩=some (.int .i64 1):=(show Blk wb gm 251 (mkC A ls.length c ((a3+1:Nat):Int) uses left 1) by simpa using Hbb).cell 4;have fb4:=(show Blk wb gm 251 (mkC A ls.length c ((a3+1:Nat):Int) uses left 1) by simpa using Hbb).frz 4
     go_upto_region 5 with fail
     have HM5:=lh (MkM.put4 Xb il lo (a3+1) (show Blk wb gm 251 (mkC A ls.length c ((a3+1:Nat):Int) uses left 1) by simpa using Hbb) (B:=B+2) om om hl2 1 om om);have HK5:Hid (KpP (·=gm) w (wb.setCell ⟨gm,4,none⟩ (.int .i64 1))):=lh (KpP.set (p:=(·=gm)) (x:=⟨gm,4,none⟩) HKb.out (.inl rfl) _);have HR5:=lh (HRb.out.far (p:=⟨gm,4,none⟩) hgne.symm (.int .i64 1));generalize wb.setCell ⟨gm,4,none⟩ (.int .i64 1)=wc at *;exact MT
    ·skip
     go_upto_region 4 with(go_at_call 184;refine(YZ w0 _ gm A c ls uses caps X3 il lo a3 left caps (by simpa using Hb3') om om om).mono ?_;rintro e wb ⟨rfl,Hbb,Xb,Kb⟩;have hy:=VX ls a3 caps om;generalize pick ls a3 caps=y at *;have ewy:IntKind.i64.wrap (1+y)=1+y:=(by rw[IntKind.wrap_i64];omega))
     have HKb:=lh (HK3.out.trans Kb);have HRb:=lh (Kb.blk HR3.out hgne.symm);obtain⟨nv,hnv⟩:∃nv:Int,nv=1+y:=⟨_,rfl⟩
     rw[<-hnv];have hn0:1<=nv/\nv<=4:=om;have hq:nv<=caps:=om;clear hnv;have cb4:wb.cell? ⟨gm,4,none⟩=some (.int .i64 caps):=(show Blk wb gm 251 (mkC A ls.length c ((a3+1:Nat):Int) uses left caps) by simpa using Hbb).cell 4;have fb4:=(show Blk wb gm 251 (mkC A ls.length c ((a3+1:Nat):Int) uses left caps) by simpa using Hbb).frz 4
     go_upto_region 5 with fail
     have HM5:=lh (MkM.put4 Xb il lo (a3+1) (show Blk wb gm 251 (mkC A ls.length c ((a3+1:Nat):Int) uses left caps) by simpa using Hbb) (B:=B+2) om om hl2 caps om om);exact fw
   ·generalize pick ls at_ 9=x at *;have hxf:(x == 0)=false:=by simp[hx0]
    go_upto_region 4 with(go_at_call 184;refine HC9.out.mono ?_;rintro e w3 ⟨rfl,Hb3,X3,K3⟩)
    have HK3:=lh (HKa.out.trans K3);have HR3:=lh (K3.blk HR.out hgne.symm);obtain⟨nv,hnv⟩:∃nv:Int,nv=caps+1:=⟨_,rfl⟩
    rw[<-hnv];have hn0:1<=nv/\nv<=4:=om;clear ca4;have hq:¬nv<=caps:=om;clear hnv;have cb4:w3.cell? ⟨gm,4,none⟩=some (.int .i64 caps):=(show Blk w3 gm 251 (mkC A ls.length c ((at_+1:Nat):Int) uses left caps) by simpa using Hb3).cell 4;have fb4:=(show Blk w3 gm 251 (mkC A ls.length c ((at_+1:Nat):Int) uses left caps) by simpa using Hb3).frz 4
    go_upto_region 5 with fail
    have HM5:=lh (MkM.put4 X3 il lo (at_+1) (show Blk w3 gm 251 (mkC A ls.length c ((at_+1:Nat):Int) uses left caps) by simpa using Hb3) (B:=B+2) om om hl2 nv om om);have HK5:Hid (KpP (·=gm) w (w3.setCell ⟨gm,4,none⟩ (.int .i64 nv))):=lh (KpP.set (p:=(·=gm)) (x:=⟨gm,4,none⟩) HK3.out (.inl rfl) _);have HR5:=lh (HR3.out.far (p:=⟨gm,4,none⟩) hgne.symm (.int .i64 nv));generalize w3.setCell ⟨gm,4,none⟩ (.int .i64 nv)=wc at *;exact MT
  ·have hcf:decide (0<caps)=false:=by simp[hc0]
   go_upto_region 4 with fail
   obtain⟨nv,hnv⟩:∃nv:Int,nv=caps+1:=⟨_,rfl⟩
   rw[<-hnv];have hn0:1<=nv/\nv<=4:=om;clear ca4;have hq:¬nv<=caps:=om;clear hnv;have cb4:wa.cell? ⟨gm,4,none⟩=some (.int .i64 caps):=hba.cell 4;have fb4:=hba.frz 4
   go_upto_region 5 with fail
   have HM5:=lh (MkM.put4 xa il lo at_ hba (B:=B+2) om om hl2 nv om om);have HK5:Hid (KpP (·=gm) w (wa.setCell ⟨gm,4,none⟩ (.int .i64 nv))):=lh (KpP.set (p:=(·=gm)) (x:=⟨gm,4,none⟩) HKa.out (.inl rfl) _);have HR5:=lh (HR.out.far (p:=⟨gm,4,none⟩) hgne.symm (.int .i64 nv));generalize wa.setCell ⟨gm,4,none⟩ (.int .i64 nv)=wc at *;exact MT
section
variable {P:Program} {ops:Array Oper} {Q:Exit->Act->World->Prop} {L:List Nat} {w0:World}
variable {n:Nat} {KD:List (Nat×Nat)} {Z:List Lz} {I:List (Nat×Nat)} {ls:List Nat} {a:Act} {w:World}
theorem jR {P:Prop} (h:P:=by
 rw[List.all_eq_true] at hZ ⊢;intro x hx;have:=hZ x hx;simp only[Bool.and_eq_true] at this;simp[this]):P:=h
theorem TY {P:Prop} (h:P:=by
 rw[KM (VJ (by rw[hKD];exact hZ0))];refine Jy ho0 hw0 fun K' hK'=>h0 w' x1 x2 K' fun a2 w2 h3 h4 h5=>hK' a2 w2 ⟨h3,h4,?_⟩;rw[Zw];exact h5 hKD):P:=h
theorem Tq {P:Prop} (h:P:=by
 rw[KM (VJ (by rw[hKD];exact hZ1))];refine Jy ho1 hw1 fun K' hK'=>h1 w' x1 x2 K' fun a2 w2 h3 h4 h5=>hK' a2 w2 ⟨h3,h4,?_⟩;rw[Zw];exact h5 hKD):P:=h
theorem Xr.forkN2 (i0 i1:Nat){o0 o1:Oper}(ho0:ops[i0]? = some o0)(ho1:ops[i1]? = some o1)
 (hr:(Region.ready .any ops (bits ops.size ls) == [i0,i1]&&KD.all fun x=>x.1 != i0&&x.1 != i1)=true) (hw0:Region.wanted o0 (yielded ops a.tmps)=true) (hw1:Region.wanted o1 (yielded ops a.tmps)=true)
 (h0:∀w',Ext w w'->Kp L w0 w'->∀K,(∀a2 w2,WI L I w' w2->Kp L w0 w2->Xr L w0 P ops Q n KD Z ((w'.heap.size,w2.heap.size)::I) (i0::ls) a2 w2->K a2 w2)->o0.wp P a w' K (NoPanic Q))
 (h1:∀w',Ext w w'->Kp L w0 w'->∀K,(∀a2 w2,WI L I w' w2->Kp L w0 w2->Xr L w0 P ops Q n KD Z ((w'.heap.size,w2.heap.size)::I) (i1::ls) a2 w2->K a2 w2)->o1.wp P a w' K (NoPanic Q))
 : Xr L w0 P ops Q (n+1) KD Z I ls a w:=by
 intro hKD;simp only[Bool.and_eq_true,beq_iff_eq] at hr;obtain⟨hr,hZ⟩:=hr;have hZ0:(KD.all fun x=>x.1 != i0)=true:=by
  exact jR
 have hZ1:(KD.all fun x=>x.1 != i1)=true:=by
  exact jR
 refine⟨fun h0=>(by rw[hr] at h0;cases h0),fun q hq w' x1 x2=>?_⟩;rw[hr] at hq
 (try unfold KJ)
 have hk2:q=i0\/q=i1:=by simpa using hq
 rcases hk2 with rfl|rfl
 ·exact TY
 ·exact Tq
theorem fy {P:Prop} (h:P:=by
 rw[KM (VJ (by rw[hKD];exact hZ2))];refine Jy ho2 hw2 fun K' hK'=>h2 w' x1 x2 K' fun a2 w2 h3 h4 h5=>hK' a2 w2 ⟨h3,h4,?_⟩;rw[Zw];exact h5 hKD):P:=h
theorem Xr.forkN3 (i0 i1 i2:Nat){o0 o1 o2:Oper}(ho0:ops[i0]? = some o0)(ho1:ops[i1]? = some o1)(ho2:ops[i2]? = some o2)
 (hr:(Region.ready .any ops (bits ops.size ls) == [i0,i1,i2]&&KD.all fun x=>x.1 != i0&&x.1 != i1&&x.1 != i2)=true) (hw0:Region.wanted o0 (yielded ops a.tmps)=true) (hw1:Region.wanted o1 (yielded ops a.tmps)=true) (hw2:Region.wanted o2 (yielded ops a.tmps)=true)
 (h0:∀w',Ext w w'->Kp L w0 w'->∀K,(∀a2 w2,WI L I w' w2->Kp L w0 w2->Xr L w0 P ops Q n KD Z ((w'.heap.size,w2.heap.size)::I) (i0::ls) a2 w2->K a2 w2)->o0.wp P a w' K (NoPanic Q))
 (h1:∀w',Ext w w'->Kp L w0 w'->∀K,(∀a2 w2,WI L I w' w2->Kp L w0 w2->Xr L w0 P ops Q n KD Z ((w'.heap.size,w2.heap.size)::I) (i1::ls) a2 w2->K a2 w2)->o1.wp P a w' K (NoPanic Q))
 (h2:∀w',Ext w w'->Kp L w0 w'->∀K,(∀a2 w2,WI L I w' w2->Kp L w0 w2->Xr L w0 P ops Q n KD Z ((w'.heap.size,w2.heap.size)::I) (i2::ls) a2 w2->K a2 w2)->o2.wp P a w' K (NoPanic Q))
 : Xr L w0 P ops Q (n+1) KD Z I ls a w:=by
 intro hKD;simp only[Bool.and_eq_true,beq_iff_eq] at hr;obtain⟨hr,hZ⟩:=hr;have hZ0:(KD.all fun x=>x.1 != i0)=true:=by
  exact jR
 have hZ1:(KD.all fun x=>x.1 != i1)=true:=by
  exact jR
 have hZ2:(KD.all fun x=>x.1 != i2)=true:=by
  exact jR
 refine⟨fun h0=>(by rw[hr] at h0;cases h0),fun q hq w' x1 x2=>?_⟩;rw[hr] at hq
 (try unfold KJ)
 have hk2:q=i0\/q=i1\/q=i2:=by simpa using hq
 rcases hk2 with rfl|rfl|rfl
 ·exact TY
 ·exact Tq
 ·exact fy
theorem Xr.forkN4 (i0 i1 i2 i3:Nat){o0 o1 o2 o3:Oper}(ho0:ops[i0]? = some o0)(ho1:ops[i1]? = some o1)(ho2:ops[i2]? = some o2)(ho3:ops[i3]? = some o3)
 (hr:(Region.ready .any ops (bits ops.size ls) == [i0,i1,i2,i3]&&KD.all fun x=>x.1 != i0&&x.1 != i1&&x.1 != i2&&x.1 != i3)=true) (hw0:Region.wanted o0 (yielded ops a.tmps)=true) (hw1:Region.wanted o1 (yielded ops a.tmps)=true) (hw2:Region.wanted o2 (yielded ops a.tmps)=true) (hw3:Region.wanted o3 (yielded ops a.tmps)=true)
 (h0:∀w',Ext w w'->Kp L w0 w'->∀K,(∀a2 w2,WI L I w' w2->Kp L w0 w2->Xr L w0 P ops Q n KD Z ((w'.heap.size,w2.heap.size)::I) (i0::ls) a2 w2->K a2 w2)->o0.wp P a w' K (NoPanic Q))
 (h1:∀w',Ext w w'->Kp L w0 w'->∀K,(∀a2 w2,WI L I w' w2->Kp L w0 w2->Xr L w0 P ops Q n KD Z ((w'.heap.size,w2.heap.size)::I) (i1::ls) a2 w2->K a2 w2)->o1.wp P a w' K (NoPanic Q))
 (h2:∀w',Ext w w'->Kp L w0 w'->∀K,(∀a2 w2,WI L I w' w2->Kp L w0 w2->Xr L w0 P ops Q n KD Z ((w'.heap.size,w2.heap.size)::I) (i2::ls) a2 w2->K a2 w2)->o2.wp P a w' K (NoPanic Q))
 (h3:∀w',Ext w w'->Kp L w0 w'->∀K,(∀a2 w2,WI L I w' w2->Kp L w0 w2->Xr L w0 P ops Q n KD Z ((w'.heap.size,w2.heap.size)::I) (i3::ls) a2 w2->K a2 w2)->o3.wp P a w' K (NoPanic Q))
 : Xr L w0 P ops Q (n+1) KD Z I ls a w:=by
 intro hKD;simp only[Bool.and_eq_true,beq_iff_eq] at hr;obtain⟨hr,hZ⟩:=hr;have hZ0:(KD.all fun x=>x.1 != i0)=true:=by
  exact jR
 have hZ1:(KD.all fun x=>x.1 != i1)=true:=by
  exact jR
 have hZ2:(KD.all fun x=>x.1 != i2)=true:=by
  exact jR
 have hZ3:(KD.all fun x=>x.1 != i3)=true:=by
  exact jR
 refine⟨fun h0=>(by rw[hr] at h0;cases h0),fun q hq w' x1 x2=>?_⟩;rw[hr] at hq
 (try unfold KJ)
 have hk2:q=i0\/q=i1\/q=i2\/q=i3:=by simpa using hq
 rcases hk2 with rfl|rfl|rfl|rfl
 ·exact TY
 ·exact Tq
 ·exact fy
 ·rw[KM (VJ (by rw[hKD];exact hZ3))];refine Jy ho3 hw3 fun K' hK'=>h3 w' x1 x2 K' fun a2 w2 h3 h4 h5=>hK' a2 w2 ⟨h3,h4,?_⟩;rw[Zw];exact h5 hKD
end
section
variable {P:Program} {ops:Array Oper} {Q:Exit->Act->World->Prop} {L M:List Nat} {w0 w1:World}
theorem Aw (hk:Kp L w0 w1):∀(n:Nat) {I:List (Nat×Nat)} {listed:Array Bool} {a:Act} {w:World},(∀g∈M,w0.heap.size<=g/\InI I g)->Kp (M++L) w1 w->wpX (M++L) w1 P ops Q n [] I listed a w->wpX L w0 P ops Q n [] I listed a w
 | 0,_,_,_,_,_,hw,h=>⟨h.1,h.2.1,fun w' e _=>h.2.2 w' e (hw.ext e)⟩
 | n+1,I,listed,a,w,hM,hw,h=>by
  refine⟨fun hr=>⟨(h.1 hr).1,fun w' e _=>(h.1 hr).2 w' e (hw.ext e)⟩,fun i hi w' e _=>?_⟩;have h3:=h.2 i hi w' e (hw.ext e);unfold KJ at *;simp only[List.find?_nil] at *;refine wpOp_mono (fun a2 w2 h4=>⟨KpP.mono h4.1 (fun b hb=>?_),?_,Aw hk n (fun g hg=>⟨(hM g hg).1,xE (fun p hp=>List.mem_cons_of_mem _ hp) (hM g hg).2⟩) h4.2.1 h4.2.2⟩) h3
  ·rcases hb with hb|hb
   ·rcases List.mem_append.1 hb with hb|hb
    ·exact .inr (hM b hb).2
    ·exact .inl hb
   ·exact .inr hb
  ·have h5:=h4.2.1;exact⟨h5.os.trans hk.os,h5.tape.trans hk.tape,h5.output.trans hk.output,Nat.le_trans hk.size h5.size,fun b hb hn=>(h5.block b (Nat.lt_of_lt_of_le hb hk.size) (fun hm=>by
    rcases List.mem_append.1 hm with hm|hm
    ·have:=(hM b hm).1;omega
    ·exact hn hm)).trans (hk.block b hb hn)⟩
theorem Xr.rebase {n:Nat}{I:List (Nat×Nat)}{ls:List Nat}{a:Act}(M:List Nat)(hM:∀g∈M,w0.heap.size<=g/\InI I g)(hk:Kp L w0 w1)(h:Xr (M++L) w1 P ops Q n [] [] I ls a w1):Xr L w0 P ops Q n [] [] I ls a w1:=by
 intro hKD;exact Aw hk n hM (Kp.refl _ _) (h rfl)
end
def BT:List Int:=[0,0,0,0,1,1,1,0,2,0,1,2]
def CQ:List Int:=[-1,-1,-1,1,-1,-1,2,2,2,3,1,-1]
theorem fx {P:Prop} (h:P:=by
 have h2:k=0\/k=1\/k=2\/k=3\/k=4\/k=5\/k=6\/k=7\/k=8\/k=9\/k=10\/k=11:=om;rcases h2 with rfl|rfl|rfl|rfl|rfl|rfl|rfl|rfl|rfl|rfl|rfl|rfl<;>rfl):P:=h
theorem bF (k:Nat)(h:k<12):(#[.int .i64 0,.int .i64 0,.int .i64 0,.int .i64 0,.int .i64 1,.int .i64 1,.int .i64 1,.int .i64 0,.int .i64 2,.int .i64 0,.int .i64 1,.int .i64 2]:Array Value)[k]? = some (.int .i64 (BT.getD k 0)):=by
 exact fx
theorem bH (k:Nat)(h:k<12):(#[.int .i64 (-1),.int .i64 (-1),.int .i64 (-1),.int .i64 1,.int .i64 (-1),.int .i64 (-1),.int .i64 2,.int .i64 2,.int .i64 2,.int .i64 3,.int .i64 1,.int .i64 (-1)]:Array Value)[k]? = some (.int .i64 (CQ.getD k 0)):=by
 exact fx
theorem fB (k:Nat)(h:k<12):0<=BT.getD k 0/\BT.getD k 0<=2/\-1<=CQ.getD k 0/\CQ.getD k 0<=3/\(CQ.getD k 0 = -1->BT.getD k 0+1<=3):=by
 have h2:k=0\/k=1\/k=2\/k=3\/k=4\/k=5\/k=6\/k=7\/k=8\/k=9\/k=10\/k=11:=om;rcases h2 with rfl|rfl|rfl|rfl|rfl|rfl|rfl|rfl|rfl|rfl|rfl|rfl<;>simp[BT,CQ]
theorem jr0 {P:Prop}(h:P:=by
 replace HR:=lh (HR.out.ext hE);replace HM:=lh (HM.out.extW hE);replace HK:=lh (HK.out.trans (KpP.of_ext hE))
 try replace H6:=lh (H6.out.ext hE)
 (try have h6lt:=H6.out.lt)
 have EA:=Ext.alloc wn (.cells #[.int .i64 0,.int .i64 0,.int .i64 0,.int .i64 0,.int .i64 1,.int .i64 1,.int .i64 1,.int .i64 0,.int .i64 2,.int .i64 0,.int .i64 1,.int .i64 2] 3);have BA:=Blk.new wn 3 #[.int .i64 0,.int .i64 0,.int .i64 0,.int .i64 0,.int .i64 1,.int .i64 1,.int .i64 1,.int .i64 0,.int .i64 2,.int .i64 0,.int .i64 1,.int .i64 2];go_simp;refine hKK _ _ (KpP.of_ext EA) (hK.ext EA) ?_;clear hKK;have hkW:=hK.ext EA;replace HR:=lh (HR.out.ext EA);replace HM:=lh (HM.out.extW EA);replace HK:=lh (HK.out.trans (KpP.of_ext EA))
 try replace H6:=lh (H6.out.ext EA)
 have hsz:wb.heap.size<=wn.heap.size:=by have:=hE.size;have:=HS.out;omega
 obtain⟨ga,hg9⟩:∃g,g=wn.heap.size:=⟨_,rfl⟩
 rw[<-hg9] at BA ⊢
 rw[<-hg9] at hsz
 (try rw[<-hg9] at h6lt)
 clear hg9;generalize wn.alloc (.cells #[.int .i64 0,.int .i64 0,.int .i64 0,.int .i64 0,.int .i64 1,.int .i64 1,.int .i64 1,.int .i64 0,.int .i64 2,.int .i64 0,.int .i64 1,.int .i64 2] 3)=wo at *;replace HS:Hid (wb.heap.size<=wo.heap.size):=lh (by have:=BA.lt;omega);refine ptm ?_;refine Xr.rebase [] si hkW ?_;simp only[List.nil_append];have hcl:=(BA.cell k).trans HTA.out
 first|(have j1:=fun(w':World) (h:Kp [g6,gm] wo w')=>h.cell hcl (by simp;omega))|(have j1:=fun(w':World) (h:Kp [gm] wo w')=>h.cell hcl (by simp;omega))
 refine Xtk 2 ?_;refine Xtn ?_;clear j1 hcl BA EA hkW hsz hE hK;exact jrN):P:=h
theorem jr4 {P:Prop}(h:P:=by
 replace HR:=lh (HR.out.ext hE);replace HM:=lh (HM.out.extW hE);replace HK:=lh (HK.out.trans (KpP.of_ext hE))
 try replace H6:=lh (H6.out.ext hE)
 (try have h6lt:=H6.out.lt)
 have EA:=Ext.alloc wn (.cells #[.int .i64 (-1),.int .i64 (-1),.int .i64 (-1),.int .i64 1,.int .i64 (-1),.int .i64 (-1),.int .i64 2,.int .i64 2,.int .i64 2,.int .i64 3,.int .i64 1,.int .i64 (-1)] 3);have BA:=Blk.new wn 3 #[.int .i64 (-1),.int .i64 (-1),.int .i64 (-1),.int .i64 1,.int .i64 (-1),.int .i64 (-1),.int .i64 2,.int .i64 2,.int .i64 2,.int .i64 3,.int .i64 1,.int .i64 (-1)];go_simp;refine hKK _ _ (KpP.of_ext EA) (hK.ext EA) ?_;clear hKK;have hkW:=hK.ext EA;replace HR:=lh (HR.out.ext EA);replace HM:=lh (HM.out.extW EA);replace HK:=lh (HK.out.trans (KpP.of_ext EA))
 try replace H6:=lh (H6.out.ext EA)
 have hsz:wb.heap.size<=wn.heap.size:=by have:=hE.size;have:=HS.out;omega
 obtain⟨ga,hg9⟩:∃g,g=wn.heap.size:=⟨_,rfl⟩
 rw[<-hg9] at BA ⊢
 rw[<-hg9] at hsz
 (try rw[<-hg9] at h6lt)
 clear hg9;generalize wn.alloc (.cells #[.int .i64 (-1),.int .i64 (-1),.int .i64 (-1),.int .i64 1,.int .i64 (-1),.int .i64 (-1),.int .i64 2,.int .i64 2,.int .i64 2,.int .i64 3,.int .i64 1,.int .i64 (-1)] 3)=wo at *;replace HS:Hid (wb.heap.size<=wo.heap.size):=lh (by have:=BA.lt;omega);refine ptm ?_;refine Xr.rebase [] si hkW ?_;simp only[List.nil_append];have hcl:=(BA.cell k).trans HTB.out
 first|(have j1:=fun(w':World) (h:Kp [g6,gm] wo w')=>h.cell hcl (by simp;omega))|(have j1:=fun(w':World) (h:Kp [gm] wo w')=>h.cell hcl (by simp;omega))
 refine Xtk 6 ?_;refine Xtn ?_;clear j1 hcl BA EA hkW hsz hE hK;exact jrN):P:=h
theorem jr9 {P:Prop}(h:P:=by
 replace HR:=lh (HR.out.ext hE);replace HM:=lh (HM.out.extW hE);replace HK:=lh (HK.out.trans (KpP.of_ext hE))
 try replace H6:=lh (H6.out.ext hE)
 go_simp;refine(HC9 wn HM.out).out.mono ?_;rintro e wo ⟨md,rfl,hmd0,hmd1,M9,K9⟩;refine hKK _ _ (KpP.mono K9 (fun b hb=>.inl (by have e:b=gm:=hb;simp[e]))) (hK.kpP K9 (fun b hb=>by have e:b=gm:=hb;simp[e])) ?_;clear hKK;have hkW:=hK.kpP K9 (fun b hb=>by have e:b=gm:=hb;simp[e]);replace HM:=lh M9;replace HR:=lh (K9.blk HR.out hgne.symm);replace HK:=lh (HK.out.trans K9)
 try replace H6:=lh (K9.blk H6.out om)
 replace HS:Hid (wb.heap.size<=wo.heap.size):=lh (by have:=hE.size;have:=K9.size;have:=HS.out;omega);refine ptm ?_;refine Xr.rebase [] si hkW ?_;simp only[List.nil_append];clear M9 K9 hkW hE hK;exact jrN):P:=h
theorem vC {P:Prop}(h:P:=by
 replace HR:=lh (HR.out.ext hE);replace HM:=lh (HM.out.extW hE);replace HK:=lh (HK.out.trans (KpP.of_ext hE))
 try replace H6:=lh (H6.out.ext hE)
 have EA:=Ext.alloc wn (.cells #[.int .i64 0,.slice none 0 0,.slice none 0 0,.int .i64 0,.int .i64 0,.int .i64 0,.int .i64 0,.bool false] 26);have BA:=Blk.new wn 26 #[.int .i64 0,.slice none 0 0,.slice none 0 0,.int .i64 0,.int .i64 0,.int .i64 0,.int .i64 0,.bool false];go_simp;refine hKK _ _ (KpP.of_ext EA) (hK.ext EA) ?_;clear hKK;have hkW:=hK.ext EA;replace HR:=lh (HR.out.ext EA);replace HM:=lh (HM.out.extW EA);replace HK:=lh (HK.out.trans (KpP.of_ext EA))
 try replace H6:=lh (H6.out.ext EA)
 have hsz:wb.heap.size<=wn.heap.size:=by have:=hE.size;have:=HS.out;omega
 have hkBase:=hE.size;obtain⟨g6,hg9⟩:∃g,g=wn.heap.size:=⟨_,rfl⟩
 rw[<-hg9] at BA ⊢
 rw[<-hg9] at hsz hkBase;clear hg9;generalize wn.alloc (.cells #[.int .i64 0,.slice none 0 0,.slice none 0 0,.int .i64 0,.int .i64 0,.int .i64 0,.int .i64 0,.bool false] 26)=wo at *;replace HS:Hid (wb.heap.size<=wo.heap.size):=lh (by have:=BA.lt;omega);refine ptm ?_;refine Xr.rebase [g6] (fun g hg=>⟨by have:=hkBase;simp at hg;omega,⟨_,List.mem_cons_self,by simp at hg;simp only;omega,by simp at hg;have:=BA.lt;simp only;omega⟩⟩) hkW ?_;simp only[List.cons_append,List.nil_append];have H6:=lh BA;clear BA EA hkW hE hK;exact jrN):P:=h
theorem jrL {P:Prop}(h:P:=by
 refine Xsp 12 fun w8 hE8 hK8 K hKK=>?_;have h68:=H6.out.ext hE8;obtain⟨f0,f1,f2,f3,f4,f5,f6,f7⟩:=Kj h68;have z0:=h68.cell 0;have z1:=h68.cell 1;have z2:=h68.cell 2;have z3:=h68.cell 3;have z4:=h68.cell 4;have z5:=h68.cell 5;have z6:=h68.cell 6;have z7:=h68.cell 7;go_simp;have hkS:=WV (p:=(·=g6)) (KpP.refl _ w8) (g:=g6) (.inl rfl) (⟨4,none,0,[],none,0,[],mn,mx,md,0,false⟩:Nd);have hb9:=ZI h68 (⟨4,none,0,[],none,0,[],mn,mx,md,0,false⟩:Nd);refine hKK _ _ (KpP.mono hkS (fun b hb=>.inl (by simp;exact .inl hb))) (hK8.kpP hkS (fun b hb=>by simp;exact .inl hb)) ?_;clear hKK;have HM8:=lh ((HM.out.extW hE8).kpR hkS om (by have:=HSW.out;omega));have HR8:=lh (hkS.blk (HR.out.ext hE8) om);have HK8:=lh (WV (p:=(·=gm)) (HK.out.trans (KpP.of_ext hE8)) (g:=g6) (.inr om) (⟨4,none,0,[],none,0,[],mn,mx,md,0,false⟩:Nd));change Xr _ _ _ _ _ _ _ _ _ _ _ (WW w8 g6 (⟨4,none,0,[],none,0,[],mn,mx,md,0,false⟩:Nd));generalize WW w8 g6 (⟨4,none,0,[],none,0,[],mn,mx,md,0,false⟩:Nd)=w9 at *;clear f0 f1 f2 f3 f4 f5 f6 f7 z0 z1 z2 z3 z4 z5 z6 z7 h68;refine ptm ?_;refine Xdn fun w10 hE10 hK10=>?_;exact KEY.out _ _ _ _ g6 md w10 hmd0 hmd1 om (lh (HM8.out.extW hE10)) (lh (HK8.out.trans (KpP.of_ext hE10))) (lh (HR8.out.ext hE10)) (lh (hb9.ext hE10))):P:=h
theorem jrN {P:Prop}(h:P:=by
 try refine Xtk 10 ?_
 first
  | (refine Xr.forkN3 0 4 9 rfl rfl rfl dK (by rfl) (by rfl) (by rfl) (fun wn hE hK K hKK=>?_) (fun wn hE hK K hKK=>?_) (fun wn hE hK K hKK=>?_);exact jr0;exact jr4;exact jr9)
  | (refine Xr.forkN3 0 4 11 rfl rfl rfl dK (by rfl) (by rfl) (by rfl) (fun wn hE hK K hKK=>?_) (fun wn hE hK K hKK=>?_) (fun wn hE hK K hKK=>?_);exact jr0;exact jr4;exact vC)
  | (refine Xr.forkN3 0 9 11 rfl rfl rfl dK (by rfl) (by rfl) (by rfl) (fun wn hE hK K hKK=>?_) (fun wn hE hK K hKK=>?_) (fun wn hE hK K hKK=>?_);exact jr0;exact jr9;exact vC)
  | (refine Xr.forkN3 4 9 11 rfl rfl rfl dK (by rfl) (by rfl) (by rfl) (fun wn hE hK K hKK=>?_) (fun wn hE hK K hKK=>?_) (fun wn hE hK K hKK=>?_);exact jr4;exact jr9;exact vC)
  | (refine Xr.forkN2 0 4 rfl rfl dK (by rfl) (by rfl) (fun wn hE hK K hKK=>?_) (fun wn hE hK K hKK=>?_);exact jr0;exact jr4)
  | (refine Xr.forkN2 0 9 rfl rfl dK (by rfl) (by rfl) (fun wn hE hK K hKK=>?_) (fun wn hE hK K hKK=>?_);exact jr0;exact jr9)
  | (refine Xr.forkN2 0 11 rfl rfl dK (by rfl) (by rfl) (fun wn hE hK K hKK=>?_) (fun wn hE hK K hKK=>?_);exact jr0;exact vC)
  | (refine Xr.forkN2 4 9 rfl rfl dK (by rfl) (by rfl) (fun wn hE hK K hKK=>?_) (fun wn hE hK K hKK=>?_);exact jr4;exact jr9)
  | (refine Xr.forkN2 4 11 rfl rfl dK (by rfl) (by rfl) (fun wn hE hK K hKK=>?_) (fun wn hE hK K hKK=>?_);exact jr4;exact vC)
  | (refine Xr.forkN2 9 11 rfl rfl dK (by rfl) (by rfl) (fun wn hE hK K hKK=>?_) (fun wn hE hK K hKK=>?_);exact jr9;exact vC)
  | (refine Xr.step 0 rfl dK (by rfl) (fun wn hE hK K hKK=>?_);exact jr0)
  | (refine Xr.step 4 rfl dK (by rfl) (fun wn hE hK K hKK=>?_);exact jr4)
  | (refine Xr.step 9 rfl dK (by rfl) (fun wn hE hK K hKK=>?_);exact jr9)
  | (refine Xr.step 11 rfl dK (by rfl) (fun wn hE hK K hKK=>?_);exact vC)
  | (exact jrL)):P:=h
theorem Tz (d:Nat)(w0:World)(gm:Nat)(A:Option Addr)(c:Nat)(ls:List Int)(uses:Int)(hu:KU uses)(hd:d<=100)
 (IH:∀(w:World) (B:Int),MkM w w0 gm A c ls uses B->B+ZB d<=100000000->Calls Tryz.prog 149 #[.pointer (some ⟨gm,0,none⟩),.int .i64 d] w (Yv 3 (d+1) w0 gm A c ls uses (B+ZB d) w))
 (w:World) (B:Int) (h:MkM w w0 gm A c ls uses B) (hB:B+ZB d+4<=100000000) :
 Calls Tryz.prog 187 #[.pointer (some ⟨gm,0,none⟩),.int .i64 ((d:Int)+1)] w (Yv 3 (d+2) w0 gm A c ls uses (B+ZB d+4) w):=by
 have hgm:gm<w.heap.size:=by
  obtain⟨_,_,_,_,_,_,hb,_⟩:=h;exact hb.lt
 have HSW:=lh h.ext.size;have hT:=YK d;generalize ZB d=T at *;have HIH:=lh IH;have ewd:IntKind.i64.wrap ((d:Int)+1-1)=(d:Int):=wj;have EX:=Ext.alloc w (.cells #[.int .i64 0,.slice none 0 0,.slice none 0 0,.int .i64 0,.int .i64 0,.int .i64 0,.int .i64 0,.bool false] 26);have HR:=lh (Blk.new w 26 #[.int .i64 0,.slice none 0 0,.slice none 0 0,.int .i64 0,.int .i64 0,.int .i64 0,.int .i64 0,.bool false]);have HM:=lh (h.extW EX);obtain⟨hu1,hu2,hu4,hu8,hu32⟩:=hu;clear IH h;go_enter Tryz.func187,Tryz.ntmps187
 go_upto_region 1 with fail
 obtain⟨gr,hgr⟩:∃gr,gr=w.heap.size:=⟨_,rfl⟩
 rw[<-hgr] at HR ⊢;have hgw:w.heap.size<=gr:=om;have hgne:gm≠gr:=om;clear hgr;generalize w.alloc (.cells #[.int .i64 0,.slice none 0 0,.slice none 0 0,.int .i64 0,.int .i64 0,.int .i64 0,.int .i64 0,.bool false] 26)=wa at *;have HKa:Hid (KpP (·=gm) w wa):=lh (KpP.of_ext EX);clear EX
 go_upto_region 2 with(go_at_call 184;refine(YG w0 _ gm A c ls uses _ 12 HM.out om om om).mono ?_;rintro e w3 ⟨k,rfl,hk0,hk1,M3,K3⟩)
 have HM3:=lh M3;have HK3:=lh (HKa.out.trans K3);have HR3:=lh (K3.blk HR.out hgne.symm);obtain⟨k,rfl⟩:∃q:Nat,k=q:=⟨k.toNat,om⟩;have hk1N:k<12:=om;have hkI:(k:Int)<12:=om;have HTA:=lh (bF k hk1N);have HTB:=lh (bH k hk1N);have HOK:=lh (fB k hk1N);generalize BT.getD k 0=mn at *;generalize CQ.getD k 0=mx at *;obtain⟨wb,hwb⟩:∃x,x=w3:=⟨_,rfl⟩;subst hwb;have HR:=HR3;have HM:=HM3;have HK:=HK3;have HS:Hid (wb.heap.size<=wb.heap.size):=lh (Nat.le_refl _);have hgrb:gr<wb.heap.size:=HR3.out.lt;have hgwb:w.heap.size<=wb.heap.size:=HK3.out.size;have HC9:=fun(w':World) (h:MkM w' w0 gm A c ls uses (B+1))=>lh (YG w0 w' gm A c ls uses (B+1) 2 h om om om);clear M3 K3 HM3 HK3 HR3 HKa hk0 hk1;refine Xr.start [gm] kr ?_;generalize hQ0:(Exit.then _ _:Exit->Act->World->Prop)=Q0;have KEY:∀(v10 v12 v14 v16:Value) (g6:Nat) (md:Int) (w9:World),0<=md->md<2->wb.heap.size<=g6->Hid (MkM w9 w0 gm A c ls uses (B+1+1))->Hid (KpP (·=gm) w w9)->Hid (Blk w9 gr 26 #[.int .i64 0,.slice none 0 0,.slice none 0 0,.int .i64 0,.int .i64 0,.int .i64 0,.int .i64 0,.bool false])->Hid (Blk w9 g6 26 (Nd.cs ⟨4,none,0,[],none,0,[],mn,mx,md,0,false⟩).toArray)->
  Q0 .normal { tmps:=#[.pointer (some ⟨gm,0,none⟩),.int .i64 ((d:Int)+1),undef,undef,.pointer (some ⟨gr,0,none⟩),.int .i64 (k:Int),.pointer (some ⟨g6,0,none⟩),undef,.pointer (some ⟨gm,0,none⟩),.int .i64 (k:Int),v10,.int .i64 (k:Int),v12,.int .i64 mn,v14,.int .i64 (k:Int),v16,.int .i64 mx,.pointer (some ⟨gm,0,none⟩),.int .i64 md,.agg #[.int .i64 4,.slice none 0 0,.slice none 0 0,.int .i64 mn,.int .i64 mx,.int .i64 md,.int .i64 0,.bool false],undef,undef,undef,undef,undef,undef,undef,undef,undef,undef,undef,undef,undef,undef,undef,undef,undef,undef,undef,undef,undef,undef,undef,undef,undef,undef,undef,undef,undef,undef,undef,undef],defers:=[] } w9:=by
  intro v10 v12 v14 v16 g6 md w9 hmd0 hmd1 hg6 HM HK HR H6;subst hQ0;dsimp only;obtain⟨xb,ilb,lob,atb,leftb,capsb,hbb,hatb,hlb1,hlb2,hcb1,hcb2⟩:=HM.out;have cu:w9.cell? ⟨gm,2,none⟩=some (.int .i64 uses):=hbb.cell 2;clear xb ilb lob hbb hatb hlb1 hlb2 hcb1 hcb2 HC9 HTA HTB
  go_upto_region 5 with fail
  go_upto_region 6 with(go_at_call 149;refine(HIH.out w9 _ HM.out om).mono ?_;rintro e w5 ⟨v,rfl,hv,M5,K5⟩;obtain⟨nd,hnd,_⟩:=hv.node;subst hnd;have HV:=lh hv;have HM5:=lh M5;have HK5:=lh (HK.out.trans K5);have HR5:=lh (K5.blk HR.out hgne.symm);have H65:=lh (K5.blk H6.out om);have hs59:=HR.out.lt;have hs69:=H6.out.lt;have hs5:=K5.size;clear hv M5;unfold Nd.val)
  have E7:=Ext.alloc w5 (.cells #[.int .i64 nd.op,.slice nd.A nd.l.length nd.c,.slice nd.K nd.ks.length nd.kc,.int .i64 nd.mn,.int .i64 nd.mx,.int .i64 nd.md,.int .i64 nd.n,.bool nd.neg] 26);have B7:Hid (Blk (w5.alloc (.cells #[.int .i64 nd.op,.slice nd.A nd.l.length nd.c,.slice nd.K nd.ks.length nd.kc,.int .i64 nd.mn,.int .i64 nd.mx,.int .i64 nd.md,.int .i64 nd.n,.bool nd.neg] 26)) w5.heap.size 26 nd.cs.toArray):=lh (Blk.new w5 26 #[.int .i64 nd.op,.slice nd.A nd.l.length nd.c,.slice nd.K nd.ks.length nd.kc,.int .i64 nd.mn,.int .i64 nd.mx,.int .i64 nd.md,.int .i64 nd.n,.bool nd.neg]);obtain⟨g7,hg7⟩:∃g,g=w5.heap.size:=⟨_,rfl⟩
  rw[<-hg7] at B7 ⊢;have HV7:Hid (Qx 3 (fun k=>w.heap.size<=k/\k≠gr/\k≠g6/\k≠g7) (w5.alloc (.cells #[.int .i64 nd.op,.slice nd.A nd.l.length nd.c,.slice nd.K nd.ks.length nd.kc,.int .i64 nd.mn,.int .i64 nd.mx,.int .i64 nd.md,.int .i64 nd.n,.bool nd.neg] 26)) (d+1) nd.val):=lh ((HV.out.imp (fun k hk hs=>by have:=HK.out.size;omega)).ext E7);have HM7:=lh (HM5.out.extW E7);have HK7:=lh (HK5.out.trans (KpP.of_ext E7));have HR7:=lh (HR5.out.ext E7);have H67:=lh (H65.out.ext E7);have hg7b:w9.heap.size<=g7:=om;clear hg7;generalize w5.alloc (.cells #[.int .i64 nd.op,.slice nd.A nd.l.length nd.c,.slice nd.K nd.ks.length nd.kc,.int .i64 nd.mn,.int .i64 nd.mx,.int .i64 nd.md,.int .i64 nd.n,.bool nd.neg] 26)=w7 at *;obtain⟨xb,ilb,lob,atb,leftb,capsb,hbb,hatb,hlb1,hlb2,hcb1,hcb2⟩:=HM7.out;have cu7:w7.cell? ⟨gm,2,none⟩=some (.int .i64 uses):=hbb.cell 2;clear xb ilb lob hbb hatb hlb1 hlb2 hcb1 hcb2 cu HV HM5 HK5 HR5 H65 K5 E7;obtain⟨q0,q1,q2,q3,q4,q5,q6,q7⟩:=Wk B7.out;have HNU:=lh (kL 3 _ (d+1) w7 nd.val HV7.out)
  go_upto_region 6 with fail
  go_upto_region 8 with(first|(go_at_call 107;refine HNU.out.mono ?_;rintro e w8 ⟨b3,rfl,x8⟩;cases b3)|(go_at_call 185;refine(yZ w0 w8 gm A c ls uses _ (HM7.out.extW x8) om).mono ?_;rintro e w10 ⟨v2,rfl,hv2,M10,K10⟩;obtain⟨nd2,hnd2,_⟩:=hv2.node;subst hnd2;have HV10:=lh hv2;have HM10:=lh M10;have b7:=K10.blk (B7.out.ext x8) om;obtain⟨f0,f1,f2,f3,f4,f5,f6,f7⟩:=Kj b7;obtain⟨z0,z1,z2,z3,z4,z5,z6,z7⟩:=Wk b7;have HB7:=lh b7;clear hv2 M10 b7;unfold Nd.val))
  ·obtain⟨wz,hwz⟩:∃x,x=w8:=⟨_,rfl⟩;subst hwz;have HVz:=lh (HV7.out.ext x8);have HMz:=lh (HM7.out.extW x8);have HKz:=lh (HK7.out.trans (KpP.of_ext x8));have HRz:=lh (HR7.out.ext x8);have H6z:=lh (H67.out.ext x8);have B7z:=lh (B7.out.ext x8);clear q0 q1 q2 q3 q4 q5 q6 q7 cu7 HNU HV7 HM7 HK7 HR7 H67 B7;obtain⟨q0,q1,q2,q3,q4,q5,q6,q7⟩:=Wk B7z.out;have k62:wz.cell? ⟨g6,2,none⟩=some (.slice none 0 0):=H6z.out.cell 2;have f62:=H6z.out.frz 2;have h6k:=H6z.out.ext (Ext.alloc wz (.cells #[.int .i64 nd.op,.slice nd.A nd.l.length nd.c,.slice nd.K nd.ks.length nd.kc,.int .i64 nd.mn,.int .i64 nd.mx,.int .i64 nd.md,.int .i64 nd.n,.bool nd.neg] 26));have k62':(wz.alloc (.cells #[.int .i64 nd.op,.slice nd.A nd.l.length nd.c,.slice nd.K nd.ks.length nd.kc,.int .i64 nd.mn,.int .i64 nd.mx,.int .i64 nd.md,.int .i64 nd.n,.bool nd.neg] 26)).cell? ⟨g6,2,none⟩=some (.slice none 0 0):=h6k.cell 2;have f62':=h6k.frz 2;have hsz1:=H6z.out.lt;have hsz2:=HRz.out.lt;clear h6k
   go_upto_region 9 with fail
   obtain⟨gk,hgk⟩:∃g,g=wz.heap.size:=⟨_,rfl⟩
   rw[<-hgk];have HGK:=lh hgk;have hszs:(wz.setCell ⟨g6,2,none⟩ (.slice (some ⟨gk,0,none⟩) 1 1)).heap.size=gk:=by rw[hgk];simp[World.setCell]
   have h6s:=H6z.out.set 2 (.slice (some ⟨gk,0,none⟩) 1 1);have hrs:=HRz.out.far (p:=⟨g6,2,none⟩) (by show gr≠g6;omega) (.slice (some ⟨gk,0,none⟩) 1 1);have KS:KpP (·=g6) wz (wz.setCell ⟨g6,2,none⟩ (.slice (some ⟨gk,0,none⟩) 1 1)):=KpP.set (p:=(·=g6)) (x:=⟨g6,2,none⟩) (KpP.refl _ _) (.inl rfl) _;have hvs:=HVz.out.kp KS (fun i hi hs=>hs.2.2.1 hi);have hms:=HMz.out.kpR KS om (by have:=HSW.out;omega);have hks:KpP (·=gm) w (wz.setCell ⟨g6,2,none⟩ (.slice (some ⟨gk,0,none⟩) 1 1)):=KpP.set (p:=(·=gm)) (x:=⟨g6,2,none⟩) HKz.out (.inr (by show w.heap.size<=g6;omega)) _;clear k62 f62 k62' f62' hgk KS;generalize wz.setCell ⟨g6,2,none⟩ (.slice (some ⟨gk,0,none⟩) 1 1)=ws at *;have EK:=Ext.alloc ws (.cells #[.int .i64 nd.op,.slice nd.A nd.l.length nd.c,.slice nd.K nd.ks.length nd.kc,.int .i64 nd.mn,.int .i64 nd.mx,.int .i64 nd.md,.int .i64 nd.n,.bool nd.neg] 26);have BK:=Blk.new ws 26 #[.int .i64 nd.op,.slice nd.A nd.l.length nd.c,.slice nd.K nd.ks.length nd.kc,.int .i64 nd.mn,.int .i64 nd.mx,.int .i64 nd.md,.int .i64 nd.n,.bool nd.neg];rw[hszs] at BK;generalize ws.alloc (.cells #[.int .i64 nd.op,.slice nd.A nd.l.length nd.c,.slice nd.K nd.ks.length nd.kc,.int .i64 nd.mn,.int .i64 nd.mx,.int .i64 nd.md,.int .i64 nd.n,.bool nd.neg] 26)=wy at *;have HVy:=lh (hvs.ext EK);have HMy:=lh (hms.extW EK);have hry:=hrs.ext EK;have HRy:=lh hry;have HBK:Hid (Blk wy gk 26 nd.cs.toArray):=lh BK;have HKy:=lh (hks.trans (KpP.of_ext EK));have H6y:Hid (Blk wy g6 26 (Nd.cs (⟨4,none,0,[],some ⟨gk,0,none⟩,1,[nd.val],mn,mx,md,0,false⟩:Nd)).toArray):=lh (by have b:=h6s.ext EK;simpa[Nd.cs] using b)
   obtain⟨p0,p1,p2,p3,p4,p5,p6,p7⟩:=Wk H6y.out;simp only[List.length_nil,List.length_cons,Nat.zero_add] at p1 p2;obtain⟨f0,f1,f2,f3,f4,f5,f6,f7⟩:=Kj hry;have z0:=hry.cell 0;have z1:=hry.cell 1;have z2:=hry.cell 2;have z3:=hry.cell 3;have z4:=hry.cell 4;have z5:=hry.cell 5;have z6:=hry.cell 6;have z7:=hry.cell 7;dsimp only at p0 p3 p4 p5 p6 p7;clear hry h6s hrs hvs hms hks EK BK hszs q0 q1 q2 q3 q4 q5 q6 q7
   go_wp2_with fail
   have HT9:Hid (Qx 3 (fun k=>w.heap.size<=k) (WW wy gr (⟨4,none,0,[],some ⟨gk,0,none⟩,1,[nd.val],mn,mx,md,0,false⟩:Nd)) (d+2) (Nd.val (⟨4,none,0,[],some ⟨gk,0,none⟩,1,[nd.val],mn,mx,md,0,false⟩:Nd))):=lh (by
    refine XQ _ ⟨by simp,by simp,by simp,by simp,by have:=HOK.out;simp only;omega,by have:=HOK.out;simp only;omega,by have:=HOK.out;simp only;omega,⟨by simp only;omega,by simp only;omega⟩,by simp,by simp[Vv]⟩ (SL.nil _) si (by show 1<=maxLen;unfold maxLen;omega) ?_ (fun u hu=>?_) si (fun _ k hk=>?_)
    ·simp only[List.flatMap_cons,List.flatMap_nil,List.append_nil];exact QC HBK.out
    ·obtain rfl:u=nd.val:=by simpa using hu
     exact HVy.out.imp (fun k hk _=>⟨hk.1,hk.2.1⟩)
    ·have:gk=k:=by simpa using hk
     have:=HGK.out;have:=HKz.out.size;omega)
   have hb9:=ZI HRy.out (⟨4,none,0,[],some ⟨gk,0,none⟩,1,[nd.val],mn,mx,md,0,false⟩:Nd);have hk9:=WV (p:=(·=gm)) HKy.out (g:=gr) (.inr hgw) (⟨4,none,0,[],some ⟨gk,0,none⟩,1,[nd.val],mn,mx,md,0,false⟩:Nd);have M9:=HMy.out.kpR (WV (p:=(·=gr)) (KpP.refl _ wy) (g:=gr) (.inl rfl) (⟨4,none,0,[],some ⟨gk,0,none⟩,1,[nd.val],mn,mx,md,0,false⟩:Nd)) hgne (by have:=HSW.out;omega);change bodyPost _ _ _ _ _ (WW wy gr (⟨4,none,0,[],some ⟨gk,0,none⟩,1,[nd.val],mn,mx,md,0,false⟩:Nd));generalize WW wy gr (⟨4,none,0,[],some ⟨gk,0,none⟩,1,[nd.val],mn,mx,md,0,false⟩:Nd)=w9 at *;obtain⟨r0,r1,r2,r3,r4,r5,r6,r7⟩:=Wk hb9;simp only[List.length_nil,List.length_cons,Nat.zero_add] at r1 r2;clear f0 f1 f2 f3 f4 f5 f6 f7 z0 z1 z2 z3 z4 z5 z6 z7 p0 p1 p2 p3 p4 p5 p6 p7;refine bodyPost_ret (v:=Nd.val (⟨4,none,0,[],some ⟨gk,0,none⟩,1,[nd.val],mn,mx,md,0,false⟩:Nd)) (by simp[results,Tryz.results187,go_sem,r0,r1,r2,r3,r4,r5,r6,r7,Nd.val]) rfl ⟨_,rfl,HT9.out,M9.mono om,hk9⟩
  ·have hkS:=WV (p:=(·=g7)) (KpP.refl _ w10) (g:=g7) (.inl rfl) nd2;have hb7:=ZI (show Blk w10 g7 26 #[.int .i64 nd.op,.slice nd.A nd.l.length nd.c,.slice nd.K nd.ks.length nd.kc,.int .i64 nd.mn,.int .i64 nd.mx,.int .i64 nd.md,.int .i64 nd.n,.bool nd.neg] from HB7.out) nd2;have hg8:g7<w8.heap.size:=(B7.out.ext x8).lt;have HKz:=lh (WV (p:=(·=gm)) ((HK7.out.trans (KpP.of_ext x8)).trans K10) (g:=g7) (.inr om) nd2);have HRz:=lh (hkS.blk (K10.blk (HR7.out.ext x8) om) om);have H6z:=lh (hkS.blk (K10.blk (H67.out.ext x8) om) om);have HMz:=lh (HM10.out.kpR hkS om (by have:=HSW.out;omega));have HVz:Hid (Qx 3 (fun k=>w.heap.size<=k/\k≠gr/\k≠g6/\k≠g7) (WW w10 g7 nd2) (d+1) nd2.val):=lh ((((HV10.out.imp (S':=fun k=>w.heap.size<=k/\k≠gr/\k≠g6/\k≠g7) (fun k hk hs=>by have:=HK7.out.size;have:=x8.size;omega))).kp hkS (fun i hi hs=>hs.2.2.2 hi)).mono om);have B7z:=lh hb7;change Code.wp _ _ _ _ (WW w10 g7 nd2);generalize WW w10 g7 nd2=wz at *;clear q0 q1 q2 q3 q4 q5 q6 q7 cu7 HNU HV7 HM7 HK7 HR7 H67 B7 z0 z1 z2 z3 z4 z5 z6 z7 f0 f1 f2 f3 f4 f5 f6 f7 hb7 hkS HB7;obtain⟨q0,q1,q2,q3,q4,q5,q6,q7⟩:=Wk B7z.out;have k62:wz.cell? ⟨g6,2,none⟩=some (.slice none 0 0):=H6z.out.cell 2;have f62:=H6z.out.frz 2;have h6k:=H6z.out.ext (Ext.alloc wz (.cells #[.int .i64 nd2.op,.slice nd2.A nd2.l.length nd2.c,.slice nd2.K nd2.ks.length nd2.kc,.int .i64 nd2.mn,.int .i64 nd2.mx,.int .i64 nd2.md,.int .i64 nd2.n,.bool nd2.neg] 26));have k62':(wz.alloc (.cells #[.int .i64 nd2.op,.slice nd2.A nd2.l.length nd2.c,.slice nd2.K nd2.ks.length nd2.kc,.int .i64 nd2.mn,.int .i64 nd2.mx,.int .i64 nd2.md,.int .i64 nd2.n,.bool nd2.neg] 26)).cell? ⟨g6,2,none⟩=some (.slice none 0 0):=h6k.cell 2
   have f62':=h6k.frz 2;have hsz1:=H6z.out.lt;have hsz2:=HRz.out.lt;clear h6k
   go_upto_region 9 with fail
   obtain⟨gk,hgk⟩:∃g,g=wz.heap.size:=⟨_,rfl⟩
   rw[<-hgk];have HGK:=lh hgk;have hszs:(wz.setCell ⟨g6,2,none⟩ (.slice (some ⟨gk,0,none⟩) 1 1)).heap.size=gk:=by rw[hgk];simp[World.setCell]
   have h6s:=H6z.out.set 2 (.slice (some ⟨gk,0,none⟩) 1 1);have hrs:=HRz.out.far (p:=⟨g6,2,none⟩) (by show gr≠g6;omega) (.slice (some ⟨gk,0,none⟩) 1 1);have KS:KpP (·=g6) wz (wz.setCell ⟨g6,2,none⟩ (.slice (some ⟨gk,0,none⟩) 1 1)):=KpP.set (p:=(·=g6)) (x:=⟨g6,2,none⟩) (KpP.refl _ _) (.inl rfl) _;have hvs:=HVz.out.kp KS (fun i hi hs=>hs.2.2.1 hi);have hms:=HMz.out.kpR KS om (by have:=HSW.out;omega);have hks:KpP (·=gm) w (wz.setCell ⟨g6,2,none⟩ (.slice (some ⟨gk,0,none⟩) 1 1)):=KpP.set (p:=(·=gm)) (x:=⟨g6,2,none⟩) HKz.out (.inr (by show w.heap.size<=g6;omega)) _;clear k62 f62 k62' f62' hgk KS;generalize wz.setCell ⟨g6,2,none⟩ (.slice (some ⟨gk,0,none⟩) 1 1)=ws at *;have EK:=Ext.alloc ws (.cells #[.int .i64 nd2.op,.slice nd2.A nd2.l.length nd2.c,.slice nd2.K nd2.ks.length nd2.kc,.int .i64 nd2.mn,.int .i64 nd2.mx,.int .i64 nd2.md,.int .i64 nd2.n,.bool nd2.neg] 26);have BK:=Blk.new ws 26 #[.int .i64 nd2.op,.slice nd2.A nd2.l.length nd2.c,.slice nd2.K nd2.ks.length nd2.kc,.int .i64 nd2.mn,.int .i64 nd2.mx,.int .i64 nd2.md,.int .i64 nd2.n,.bool nd2.neg];rw[hszs] at BK;generalize ws.alloc (.cells #[.int .i64 nd2.op,.slice nd2.A nd2.l.length nd2.c,.slice nd2.K nd2.ks.length nd2.kc,.int .i64 nd2.mn,.int .i64 nd2.mx,.int .i64 nd2.md,.int .i64 nd2.n,.bool nd2.neg] 26)=wy at *;have HVy:=lh (hvs.ext EK);have HMy:=lh (hms.extW EK);have hry:=hrs.ext EK;have HRy:=lh hry;have HBK:Hid (Blk wy gk 26 nd2.cs.toArray):=lh BK;have HKy:=lh (hks.trans (KpP.of_ext EK));have H6y:Hid (Blk wy g6 26 (Nd.cs (⟨4,none,0,[],some ⟨gk,0,none⟩,1,[nd2.val],mn,mx,md,0,false⟩:Nd)).toArray):=lh (by have b:=h6s.ext EK;simpa[Nd.cs] using b)
   obtain⟨p0,p1,p2,p3,p4,p5,p6,p7⟩:=Wk H6y.out;simp only[List.length_nil,List.length_cons,Nat.zero_add] at p1 p2;obtain⟨f0,f1,f2,f3,f4,f5,f6,f7⟩:=Kj hry;have z0:=hry.cell 0;have z1:=hry.cell 1;have z2:=hry.cell 2;have z3:=hry.cell 3;have z4:=hry.cell 4;have z5:=hry.cell 5;have z6:=hry.cell 6;have z7:=hry.cell 7;dsimp only at p0 p3 p4 p5 p6 p7;clear hry h6s hrs hvs hms hks EK BK hszs q0 q1 q2 q3 q4 q5 q6 q7
   go_wp2_with fail
   have HT9:Hid (Qx 3 (fun k=>w.heap.size<=k) (WW wy gr (⟨4,none,0,[],some ⟨gk,0,none⟩,1,[nd2.val],mn,mx,md,0,false⟩:Nd)) (d+2) (Nd.val (⟨4,none,0,[],some ⟨gk,0,none⟩,1,[nd2.val],mn,mx,md,0,false⟩:Nd))):=lh (by
    refine XQ _ ⟨by simp,by simp,by simp,by simp,by have:=HOK.out;simp only;omega,by have:=HOK.out;simp only;omega,by have:=HOK.out;simp only;omega,⟨by simp only;omega,by simp only;omega⟩,by simp,by simp[Vv]⟩ (SL.nil _) si (by show 1<=maxLen;unfold maxLen;omega) ?_ (fun u hu=>?_) si (fun _ k hk=>?_)
    ·simp only[List.flatMap_cons,List.flatMap_nil,List.append_nil];exact QC HBK.out
    ·obtain rfl:u=nd2.val:=by simpa using hu
     exact HVy.out.imp (fun k hk _=>⟨hk.1,hk.2.1⟩)
    ·have:gk=k:=by simpa using hk
     have:=HGK.out;have:=HKz.out.size;omega)
   have hb9:=ZI HRy.out (⟨4,none,0,[],some ⟨gk,0,none⟩,1,[nd2.val],mn,mx,md,0,false⟩:Nd);have hk9:=WV (p:=(·=gm)) HKy.out (g:=gr) (.inr hgw) (⟨4,none,0,[],some ⟨gk,0,none⟩,1,[nd2.val],mn,mx,md,0,false⟩:Nd);have M9:=HMy.out.kpR (WV (p:=(·=gr)) (KpP.refl _ wy) (g:=gr) (.inl rfl) (⟨4,none,0,[],some ⟨gk,0,none⟩,1,[nd2.val],mn,mx,md,0,false⟩:Nd)) hgne (by have:=HSW.out;omega);change bodyPost _ _ _ _ _ (WW wy gr (⟨4,none,0,[],some ⟨gk,0,none⟩,1,[nd2.val],mn,mx,md,0,false⟩:Nd));generalize WW wy gr (⟨4,none,0,[],some ⟨gk,0,none⟩,1,[nd2.val],mn,mx,md,0,false⟩:Nd)=w9 at *;obtain⟨r0,r1,r2,r3,r4,r5,r6,r7⟩:=Wk hb9;simp only[List.length_nil,List.length_cons,Nat.zero_add] at r1 r2;clear f0 f1 f2 f3 f4 f5 f6 f7 z0 z1 z2 z3 z4 z5 z6 z7 p0 p1 p2 p3 p4 p5 p6 p7;refine bodyPost_ret (v:=Nd.val (⟨4,none,0,[],some ⟨gk,0,none⟩,1,[nd2.val],mn,mx,md,0,false⟩:Nd)) (by simp[results,Tryz.results187,go_sem,r0,r1,r2,r3,r4,r5,r6,r7,Nd.val]) rfl ⟨_,rfl,HT9.out,M9.mono om,hk9⟩
 replace KEY:=lh KEY;refine Xtk 1 ?_;refine Xtk 5 ?_;refine Xtk 8 ?_;refine Xr.forkN4 0 4 9 11 rfl rfl rfl rfl dK (by rfl) (by rfl) (by rfl) (by rfl) (fun wn hE hK K hKK=>?_) (fun wn hE hK K hKK=>?_) (fun wn hE hK K hKK=>?_) (fun wn hE hK K hKK=>?_)
 ·exact jr0
 ·exact jr4
 ·exact jr9
 ·exact vC
end
