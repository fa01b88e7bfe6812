/- Texts of this proof: PK9. -/
import Derived.Test.YtmocoldobnimfaaGreatMS34
import Derived.Test.YtmocoldobnimfaaGreatMS38
set_option linter.all false
set_option maxRecDepth 100000
set_option maxHeartbeats 16000000
namespace Go.Proofs.YtmocoldobnimfaaGreat
section
open Go.RowKit
attribute [local go_sem ↓] Go.wp_at_zero Go.wp_at_succ
def lE (gA:Option Addr)(n gc:Nat)(caps:Int)(rn:Bool)(T:Option Addr)(tn tc:Nat)(w:World)(e:Ending)(w':World):Prop:=∃gm gM:Nat,e=.returned (.tuple #[.pointer (some ⟨gm,0,none⟩),.int .i64 0])/\Ext w w'/\
 Blk w' gm 229 #[.slice gA n gc,.int .i64 caps,.bool rn,.slice T tn tc,.slice (some ⟨gM,0,none⟩) n n]/\Blk w' gM 3 (Wy (List.replicate n 0))/\w.heap.size<=gM
theorem N1 (w:World)(gA:Option Addr)(gc:Nat)(hs:List Hin)(caps:Int)(rn:Bool)(T:Option Addr)(tc:Nat)(ts:List Int)(hP:PL w gA gc hs)(hE:WG rn caps (QW hs)=0)(hn:hs.length<=8192)(htl:ts.length<=65536) :
 Calls Tryz.prog 91 #[QN gA hs.length gc caps rn,.slice T ts.length tc] w (lE gA hs.length gc caps rn T ts.length tc w):=by
 have hgl:=hP.len;have EB:=Ext.alloc w (.cells #[.slice gA hs.length gc,.int .i64 caps,.bool rn] 48);have BB:=Blk.new w 48 #[.slice gA hs.length gc,.int .i64 caps,.bool rn];have hmk:=iy hs.length om;unfold QN;go_enter Tryz.func91,Tryz.ntmps91
 go_upto_region 1 with fail
 obtain⟨gq,hgq⟩:∃q,q=w.heap.size:=⟨_,rfl⟩
 rw[<-hgq] at BB ⊢;clear hgq;generalize w.alloc (.cells #[.slice gA hs.length gc,.int .i64 caps,.bool rn] 48)=wa at *;have HV:=lh (kN gA gc hs rn caps wa (hP.ext EB));unfold QN at HV;rw[hE] at HV;have q0:wa.cell? ⟨gq,0,none⟩=some (.slice gA hs.length gc):=BB.cell 0;have q1:wa.cell? ⟨gq,1,none⟩=some (.int .i64 caps):=BB.cell 1;have q2:wa.cell? ⟨gq,2,none⟩=some (.bool rn):=BB.cell 2;clear hE hP
 go_upto_region 6 with(go_at_call 66;refine HV.out.mono ?_;rintro e w2 ⟨rfl,x2⟩)
 have X2:=lh (EB.trans x2);have k0:=fun(w':World) (h:Kp [] w2 w')=>h.cell (x2.cell q0) si;have k1:=fun(w':World) (h:Kp [] w2 w')=>h.cell (x2.cell q1) si;have k2:=fun(w':World) (h:Kp [] w2 w')=>h.cell (x2.cell q2) si;clear q0 q1 q2 HV EB BB x2;refine Xr.start [] kr ?_;refine Xtk 0 ?_
 iterate 4(refine Xtn ?_)
 refine Xcl 5 fun w3 hE3 hK3 K hKK=>?_;go_simp;refine hKK _ _ (Ext.alloc _ _) ?_;have BM:=Blk.new w3 3 (Wy (List.replicate hs.length 0));have XM:=Ext.alloc w3 (.cells (Wy (List.replicate hs.length 0)) 3);obtain⟨gM,hgM⟩:∃g,g=w3.heap.size:=⟨_,rfl⟩
 rw[<-hgM] at BM ⊢;have X3:=lh hK3.nil;have HGM:Hid (w.heap.size<=gM):=lh (by rw[hgM];exact Nat.le_trans X2.out.size hK3.nil.size);clear hgM hKK hmk;generalize w3.alloc (.cells (Wy (List.replicate hs.length 0)) 3)=w4 at *;refine ptm ?_;refine Xtk 6 ?_;refine Xcl 7 fun w5 hE5 hK5 K hKK=>?_;go_simp;refine hKK _ _ (Ext.alloc _ _) ?_;have BG:=Blk.new w5 229 #[.slice gA hs.length gc,.int .i64 caps,.bool rn,.slice T ts.length tc,.slice (some ⟨gM,0,none⟩) hs.length hs.length];have XG:=Ext.alloc w5 (.cells #[.slice gA hs.length gc,.int .i64 caps,.bool rn,.slice T ts.length tc,.slice (some ⟨gM,0,none⟩) hs.length hs.length] 229);have B5:=BM.ext hE5;obtain⟨gm,hgm⟩:∃g,g=w5.heap.size:=⟨_,rfl⟩
 rw[<-hgm] at BG ⊢;clear hgm hKK;generalize w5.alloc (.cells #[.slice gA hs.length gc,.int .i64 caps,.bool rn,.slice T ts.length tc,.slice (some ⟨gM,0,none⟩) hs.length hs.length] 229)=w6 at *;refine ptm ?_;refine Xtk 8 ?_;refine Xtn ?_;refine Xdn fun w7 hE7 hK7=>?_;have HX:=lh (((((X2.out.trans X3.out).trans XM).trans hE5).trans XG).trans hE7);have HG:=lh (BG.ext hE7);have HM:=lh (B5.ext (XG.trans hE7));clear k0 k1 k2 X2 X3 hE3 hK3 hE5 hK5 hE7 hK7 BG XG B5 BM XM
 go_wp2_with fail
 exact bodyPost_ret (v:=.tuple #[.pointer (some ⟨gm,0,none⟩),.int .i64 0]) (by simp[results,Tryz.results91,go_sem]) rfl ⟨gm,gM,rfl,HX.out,HG.out,HM.out,HGM.out⟩
def N2 (w0:World)(R:Bool×Int)(x:Array Value)(e:Ending)(w':World):Prop:=∃(st:Int) (A:Option Addr) (n c:Nat),e=.returned (.tuple (#[.agg #[.int .i64 st,.int .i64 R.2,.slice A n c],.bool R.1]++x))/\Ext w0 w'
theorem N3 (w0 w:World)(gm gM:Nat)(gA:Option Addr)(gc:Nat)(hs:List Hin)(caps:Int)(rn:Bool)(T:Option Addr)(tc:Nat)(ts:List Int)(i:Nat)
 (hG:GOk rn caps (QW hs)) (hP:PL w0 gA gc hs) (x0:Ext w0 w) (hT:IL w0 T tc ts) (bm:Blk w gm 229 #[.slice gA hs.length gc,.int .i64 caps,.bool rn,.slice T ts.length tc,.slice (some ⟨gM,0,none⟩) hs.length hs.length])
 (bM:Blk w gM 3 (Wy (List.replicate hs.length 0))) (hM0:w0.heap.size<=gM) (hi:i<=ts.length) (htl:ts.length<=65536) :
 Calls Tryz.prog 92 #[.pointer (some ⟨gm,0,none⟩),.int .i64 i,.int .i64 i] w (N2 w0 (pkR (QW hs) (ts.drop i) i (QX (QW hs) [0]) (false,0)) #[]):=by
 obtain⟨n2,hn2⟩:∃n2:Nat,2*caps=(n2:Int):=⟨(2*caps).toNat,by have:=hG.cap9;omega⟩;obtain⟨R,hR⟩:∃R,R=pkR (QW hs) (ts.drop i) i (QX (QW hs) [0]) (false,0):=⟨_,rfl⟩
 rw[<-hR];have HR:=lh hR;clear hR;have egs:=RI;have HS1:Hid ((w.alloc (.cells #[.pointer (some ⟨gm,0,none⟩)] 163)).heap.size=w.heap.size+1):=lh (by show(w.heap.push _).size=_;rw[Array.size_push]);go_enter Tryz.func92,Tryz.ntmps92;have E3:=Ext.alloc w (.cells #[.pointer (some ⟨gm,0,none⟩)] 163);have B3:=Blk.new w 163 #[.pointer (some ⟨gm,0,none⟩)]
 go_upto_region 1 with fail
 have hs1:=HS1.out;obtain⟨g3,h3⟩:∃g,g=w.heap.size:=⟨_,rfl⟩
 rw[<-h3] at B3 hs1 ⊢;have H3:=lh h3;clear h3;generalize w.alloc (.cells #[.pointer (some ⟨gm,0,none⟩)] 163)=w1 at *;have E6:=Ext.alloc w1 (.cells #[.int .i64 0,.int .i64 0,.slice none 0 0] 89);have B6:=Blk.new w1 89 #[.int .i64 0,.int .i64 0,.slice none 0 0];obtain⟨g6,h6⟩:∃g,g=w1.heap.size:=⟨_,rfl⟩
 rw[<-hs1,<-h6]
 rw[<-h6] at B6;clear hs1 HS1;have H6:=lh h6;clear h6;generalize w1.alloc (.cells #[.int .i64 0,.int .i64 0,.slice none 0 0] 89)=w2 at *
 go_upto_region 2 with fail
 have E8:=Ext.alloc w2 (.cells #[.int .i64 0,.int .i64 0,.slice none 0 0] 89);have B8:=Blk.new w2 89 #[.int .i64 0,.int .i64 0,.slice none 0 0];obtain⟨g8,h8⟩:∃g,g=w2.heap.size:=⟨_,rfl⟩
 rw[<-h8] at B8 ⊢;have H8:=lh h8;clear h8;generalize w2.alloc (.cells #[.int .i64 0,.int .i64 0,.slice none 0 0] 89)=w3 at *;have E9:=Ext.alloc w3 (.cells #[.bool false] 4);have B9:=Blk.new w3 4 #[.bool false]
 go_upto_region 3 with fail
 obtain⟨g9,h9⟩:∃g,g=w3.heap.size:=⟨_,rfl⟩
 rw[<-h9] at B9 ⊢;generalize w3.alloc (.cells #[.bool false] 4)=w4 at *;have h3:=H3.out;have h6:=H6.out;have h8:=H8.out;have X4:=((E3.trans E6).trans E8).trans E9;have s0:=x0.size;have s1:=E3.size;have s2:=E6.size;have s3:=E8.size;have l6:=B6.lt;have l3:=B3.lt;have HRUN:=lh (UM w0 w4 gm gM g3 g8 g9 g6 gA gc hs caps rn T tc ts n2 i 0 hG hP (x0.trans X4) hT hn2 (bm.ext X4) ⟨_,by simp,bM.ext X4⟩ hM0 (B3.ext ((E6.trans E8).trans E9)) B9 ⟨0,none,0,0,B8.ext E9⟩ (B6.ext (E8.trans E9)) om ⟨om,om⟩ hi htl)
 rw[<-HR.out] at HRUN;have HN68:Hid (g6<g8):=lh om;have HL6:Hid (w0.heap.size<=g6):=lh om;have HM3:=lh (B3.ext ((E6.trans E8).trans E9));have c3:w4.cell? ⟨g3,0,none⟩=some (.pointer (some ⟨gm,0,none⟩)):=HM3.out.cell 0;clear h3 h6 h8 h9 E3 E6 E8 E9 B3 B6 B8 B9 hP hG hT x0 bm bM hM0 hn2 s0 s1 s2 s3 l6 l3 X4 H3 H6 H8
 go_upto_region 4 with(go_at_call 135;refine HRUN.out.mono ?_;rintro e w5 ⟨rfl,x5,b9,⟨st,SA,sn,sc,b8⟩,b6⟩)
 obtain⟨y0,y1,y2,f0,f1,f2,_⟩:=b8.c3;have hb9:w5.cell? ⟨g9,0,none⟩=some (.bool R.1):=b9.cell 0;have n68:g8∉[g6]:=by have h1:=HN68.out;simp;omega
 have n69:g9∉[g6]:=by have h1:=Qq b6 b9 de;simp;omega
 have k0:=fun(w':World) (h:Kp [g6] w5 w')=>h.cell y0 n68;have k1:=fun(w':World) (h:Kp [g6] w5 w')=>h.cell y1 n68;have k2:=fun(w':World) (h:Kp [g6] w5 w')=>h.cell y2 n68;have k3:=fun(w':World) (h:Kp [g6] w5 w')=>h.cell hb9 n69;have X5:=lh x5;have B6':=lh b6;clear y0 y1 y2 f0 f1 f2 hb9 n68 n69 b8 b9 b6 x5 HRUN c3 HM3;refine Xr.start [g6] kr ?_;refine Xtk 0 ?_;refine Xtn ?_;refine Xsp 2 fun w6 hE6 hK6 K hKK=>?_;have c6:=B6'.out.ext hE6;obtain⟨y0,y1,y2,f0,f1,f2,_⟩:=c6.c3;go_simp;change K _ (V4 w6 g6 st R.2 SA sn sc);refine hKK _ _ (zY (KpP.refl _ _) (.inl si) _ _ _ _ _) (Gz hK6 si _ _ _ _ _) ?_;have c7:=vy c6 st R.2 SA sn sc;have X7:Ext w0 (V4 w6 g6 st R.2 SA sn sc):=Ext.kp (X5.out.trans hE6) (zY (p:=(·=g6)) (KpP.refl _ _) rfl _ _ _ _ _) (fun b hb=>by have e:b=g6:=hb;have h1:=HL6.out;omega);generalize V4 w6 g6 st R.2 SA sn sc=w7 at *;clear hKK y0 y1 y2 f0 f1 f2 c6 hE6 hK6;refine ptm ?_;refine Xtk 3 ?_;refine Xdn fun w8 hE8 hK8=>?_;have c8:=c7.ext hE8;obtain⟨y0,y1,y2,f0,f1,f2,_⟩:=c8.c3;have X8:=lh (X7.trans hE8);clear k0 k1 k2 k3 c7 X7 hE8 hK8
 go_wp2_with fail
 refine bodyPost_ret (v:=.tuple #[.agg #[.int .i64 st,.int .i64 R.2,.slice SA sn sc],.bool R.1]) (by simp[results,Tryz.results92,go_sem,y0,y1,y2]) rfl ⟨st,SA,sn,sc,rfl,X8.out⟩
theorem RO (w:World)(gA:Option Addr)(gc:Nat)(hs:List Hin)(caps:Int)(rn:Bool)(T:Option Addr)(tc:Nat)(ts:List Int)(i:Nat)
 (hG:GOk rn caps (QW hs)) (hE:WG rn caps (QW hs)=0) (hP:PL w gA gc hs) (hT:IL w T tc ts) (hi:i<=ts.length) (htl:ts.length<=65536) :
 Calls Tryz.prog 42 #[QN gA hs.length gc caps rn,.slice T ts.length tc,.int .i64 i] w (N2 w (pkR (QW hs) (ts.drop i) i (QX (QW hs) [0]) (false,0)) #[.int .i64 0]):=by
 obtain⟨R,hR⟩:∃R,R=pkR (QW hs) (ts.drop i) i (QX (QW hs) [0]) (false,0):=⟨_,rfl⟩
 rw[<-hR];have HR:=lh hR;clear hR;have hgl:=hP.len;have htc1:=hT.le;have htc2:=hT.cap;unfold maxLen at htc2;have hn8:=hG.len;rw[Qw] at hn8;have EB:=Ext.alloc w (.cells #[.slice gA hs.length gc,.int .i64 caps,.bool rn] 48);have BB:=Blk.new w 48 #[.slice gA hs.length gc,.int .i64 caps,.bool rn];have HS1:Hid ((w.alloc (.cells #[.slice gA hs.length gc,.int .i64 caps,.bool rn] 48)).heap.size=w.heap.size+1):=lh (by show(w.heap.push _).size=_;rw[Array.size_push]);have HP:=lh hP;have HT:=lh hT;have HG:=lh hG;have HE:=lh hE;clear hP hT hG hE;unfold QN;go_enter Tryz.func42,Tryz.ntmps42
 go_upto_region 1 with fail
 have hs1:=HS1.out;obtain⟨gq,hgq⟩:∃q,q=w.heap.size:=⟨_,rfl⟩
 rw[<-hgq] at BB hs1 ⊢;clear hgq;generalize w.alloc (.cells #[.slice gA hs.length gc,.int .i64 caps,.bool rn] 48)=wa at *;have E6:=Ext.alloc wa (.cells #[.int .i64 0,.int .i64 0,.slice none 0 0] 89);have B6:=Blk.new wa 89 #[.int .i64 0,.int .i64 0,.slice none 0 0];obtain⟨g6,h6⟩:∃g,g=wa.heap.size:=⟨_,rfl⟩
 rw[<-hs1,<-h6]
 rw[<-h6] at B6;have HL6:Hid (w.heap.size<=g6):=lh (by rw[h6];exact EB.size);clear hs1 HS1 h6;generalize wa.alloc (.cells #[.int .i64 0,.int .i64 0,.slice none 0 0] 89)=wb at *;have B7:=BB.ext E6;have q0:wb.cell? ⟨gq,0,none⟩=some (.slice gA hs.length gc):=B7.cell 0;have q1:wb.cell? ⟨gq,1,none⟩=some (.int .i64 caps):=B7.cell 1;have q2:wb.cell? ⟨gq,2,none⟩=some (.bool rn):=B7.cell 2;have XB:=lh (EB.trans E6);have HST:=lh (N1 wb gA gc hs caps rn T tc ts (HP.out.ext XB.out) HE.out hn8.2 htl);unfold QN at HST;have HB6:=lh B6;clear EB E6 BB B6 B7
 go_upto_region 6 with(go_at_call 91;refine HST.out.mono ?_;rintro e w2 ⟨gm,gM,rfl,x2,bm,bM,hgM⟩)
 have HFI:=lh (N3 wb w2 gm gM gA gc hs caps rn T tc ts i HG.out (HP.out.ext XB.out) x2 (HT.out.ext XB.out) bm bM hgM hi htl)
 rw[<-HR.out] at HFI;clear q0 q1 q2 HST bm bM hgM x2
 go_upto_region 7 with(go_at_call 92;refine HFI.out.mono ?_;rintro e w5 ⟨st,SA,sn,sc,rfl,x5⟩;have BS:=Blk.new w5 89 #[.int .i64 st,.int .i64 R.2,.slice SA sn sc];have ES:=Ext.alloc w5 (.cells #[.int .i64 st,.int .i64 R.2,.slice SA sn sc] 89))
 obtain⟨g11,h11⟩:∃g,g=w5.heap.size:=⟨_,rfl⟩
 rw[<-h11] at BS ⊢;clear h11;generalize w5.alloc (.cells #[.int .i64 st,.int .i64 R.2,.slice SA sn sc] 89)=w6 at *;have B6:=HB6.out.ext (x5.trans ES);obtain⟨y0,y1,y2,f0,f1,f2,_⟩:=B6.c3;obtain⟨z0,z1,z2,_⟩:=BS.c3;have X6:=lh (XB.out.trans (x5.trans ES));have K6:=B6;have HK6:=lh K6;clear K6 B6 BS x5 ES HFI
 go_wp2_with fail
 change bodyPost _ _ _ _ _ (V4 w6 g6 st R.2 SA sn sc);have c7:=vy HK6.out st R.2 SA sn sc;have X7:Ext w (V4 w6 g6 st R.2 SA sn sc):=Ext.kp X6.out (zY (p:=(·=g6)) (KpP.refl _ _) rfl _ _ _ _ _) (fun b hb=>by have e:b=g6:=hb;have h1:=HL6.out;omega);generalize V4 w6 g6 st R.2 SA sn sc=w7 at *;clear y0 y1 y2 f0 f1 f2;obtain⟨y0,y1,y2,f0,f1,f2,_⟩:=c7.c3;refine bodyPost_ret (v:=.tuple #[.agg #[.int .i64 st,.int .i64 R.2,.slice SA sn sc],.bool R.1,.int .i64 0]) (by simp[results,Tryz.results42,go_sem,y0,y1,y2]) rfl ⟨st,SA,sn,sc,rfl,X7⟩
end
