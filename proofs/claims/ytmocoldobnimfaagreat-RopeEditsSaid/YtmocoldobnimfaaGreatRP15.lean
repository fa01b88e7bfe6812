/- Texts of this proof: R2. -/
import Derived.Test.YtmocoldobnimfaaGreatRP10
import Derived.Shelf.Abstract
set_option linter.all false
set_option maxRecDepth 100000
set_option maxHeartbeats 8000000
namespace Go.Proofs.YtmocoldobnimfaaGreat
section
open Go.RowKit
attribute [local go_sem ↓] Go.wp_at_zero Go.wp_at_succ
def RetE (v:Value)(w:World)(e:Ending)(w':World):Prop:=e=.returned v∧w=w'
theorem lfSize_any (w:World)(b:Nat)(A:Option Addr)(n c:Nat)(gs:Value)(hb:Blk w b 238 #[.slice A n c,gs]):Calls Tryz.prog 251 #[.pointer (some ⟨b,0,none⟩)] w (RetE (.int .i64 n) w):=by
 obtain⟨c0,c1,_⟩:=hb.c2;go_enter Tryz.func251,Tryz.ntmps251
 go_wp2
 go_ret
 exact⟨rfl,rfl⟩
theorem lfHeight_any (w:World)(b:Nat):Calls Tryz.prog 250 #[.pointer (some ⟨b,0,none⟩)] w (RetE (.int .i64 1) w):=by
 go_enter Tryz.func250,Tryz.ntmps250
 go_wp2
 go_ret
 exact⟨rfl,rfl⟩
theorem lfSum_any (w:World)(b:Nat)(x gs:Value)(hb:Blk w b 238 #[x,gs]):Calls Tryz.prog 252 #[.pointer (some ⟨b,0,none⟩)] w (RetE gs w):=by
 obtain⟨c0,c1,_⟩:=hb.c2;go_enter Tryz.func252,Tryz.ntmps252
 go_wp2
 go_ret
 exact⟨rfl,rfl⟩
theorem inSize_any (w:World)(b:Nat)(v0 v1 v2 v3 v4:Value)(hb:Blk w b 241 #[v0,v1,v2,v3,v4]):Calls Tryz.prog 254 #[.pointer (some ⟨b,0,none⟩)] w (RetE v2 w):=by
 have c0:w.cell? ⟨b,2,none⟩=some v2:=hb.cell 2;go_enter Tryz.func254,Tryz.ntmps254
 go_wp2
 go_ret
 exact⟨rfl,rfl⟩
theorem inHeight_any (w:World)(b:Nat)(v0 v1 v2 v3 v4:Value)(hb:Blk w b 241 #[v0,v1,v2,v3,v4]):Calls Tryz.prog 253 #[.pointer (some ⟨b,0,none⟩)] w (RetE v3 w):=by
 have c0:w.cell? ⟨b,3,none⟩=some v3:=hb.cell 3;go_enter Tryz.func253,Tryz.ntmps253
 go_wp2
 go_ret
 exact⟨rfl,rfl⟩
theorem inSum_any (w:World)(b:Nat)(v0 v1 v2 v3 v4:Value)(hb:Blk w b 241 #[v0,v1,v2,v3,v4]):Calls Tryz.prog 255 #[.pointer (some ⟨b,0,none⟩)] w (RetE v4 w):=by
 have c0:w.cell? ⟨b,4,none⟩=some v4:=hb.cell 4;go_enter Tryz.func255,Tryz.ntmps255
 go_wp2
 go_ret
 exact⟨rfl,rfl⟩
structure MthOk (T b:Nat)(nm:String)(x:Value)(K:Nat)(w:World):Prop where
 nil_:∀w,(nilAhead 442 T (.pointer (some ⟨b,0,none⟩)) nm).run Tryz.prog w=.ok (some false) w
 mth:∀w,(method 442 T (.pointer (some ⟨b,0,none⟩)) nm).run Tryz.prog w=.ok (K,.pointer (some ⟨b,0,none⟩)) w
 ent:∀(args:Array Value) (w:World),(callFunc K args).run Tryz.prog w=.ok (.enter K args) w
 call:∀w',Ext w w'→Calls Tryz.prog K #[.pointer (some ⟨b,0,none⟩)] w' (RetE x w')
structure NdM (w:World)(T b:Nat)(n h:Nat)(s:Value)(K1 K2 K3:Nat):Prop where
 size : MthOk T b "rexmill/rope.size" (.int .i64 n) K1 w
 height : MthOk T b "rexmill/rope.height" (.int .i64 h) K2 w
 sum : MthOk T b "rexmill/rope.sum" s K3 w
theorem RtAt.meth {S:World→Nat→List Int→Prop}{w:World}:∀{t:Sh} {v:Value},RtAt S w v t→∃T b gs K1 K2 K3,v=.iface T (.pointer (some ⟨b,0,none⟩))∧NdM w T b t.text.length t.hgt (.pointer (some ⟨gs,0,none⟩)) K1 K2 K3∧S w gs t.text
 | .lf ts,v,⟨b,A,c,gs,e,hb,hi,ht,hs⟩=>⟨236,b,gs,251,250,252,e,
  ⟨⟨fun w=>by kernel_rfl,fun w=>by kernel_rfl,Tryz.call251,fun w' x=>lfSize_any w' b A ts.length c _ (hb.ext x)⟩,⟨fun w=>by kernel_rfl,fun w=>by kernel_rfl,Tryz.call250,fun w' x=>lfHeight_any w' b⟩,
   ⟨fun w=>by kernel_rfl,fun w=>by kernel_rfl,Tryz.call252,fun w' x=>lfSum_any w' b _ _ (hb.ext x)⟩⟩,hs⟩
 | .nd l r,v,⟨b,vl,vr,gs,e,hb,h1,h2,hs⟩=>⟨239,b,gs,254,253,255,e,
  ⟨⟨fun w=>by kernel_rfl,fun w=>by kernel_rfl,Tryz.call254,fun w' x=>inSize_any w' b _ _ _ _ _ (hb.ext x)⟩,⟨fun w=>by kernel_rfl,fun w=>by kernel_rfl,Tryz.call253,fun w' x=>inHeight_any w' b _ _ _ _ _ (hb.ext x)⟩,
   ⟨fun w=>by kernel_rfl,fun w=>by kernel_rfl,Tryz.call255,fun w' x=>inSum_any w' b _ _ _ _ _ (hb.ext x)⟩⟩,hs⟩
def BdAt (w:World)(gb g k:Nat):Prop:=Blk w gb 170 #[.pointer (some ⟨g,0,none⟩),.int .i64 k,.int .i64 0]
theorem BdAt.ext {w w':World}{gb g k:Nat}(h:BdAt w gb g k)(x:Ext w w'):BdAt w' gb g k:=Blk.ext h x
theorem KpP.thenExt {p:Nat→Prop}{a b c:World}(h:KpP p a b)(x:Ext b c):KpP p a c:=h.trans (KpP.of_ext x)
theorem KpP.extThen {p:Nat→Prop}{a b c:World}(x:Ext a b)(h:KpP p b c):KpP p a c:=(KpP.of_ext x).trans h
theorem note_any (w:World)(gb g k:Nat)(hb:BdAt w gb g k):Calls Tryz.prog 172 #[.pointer (some ⟨gb,0,none⟩),.int .i64 0] w (fun e w'=>e=.returned (.tuple #[])∧BdAt w' gb g k∧KpP (·=gb) w w'):=by
 have c2:w.cell? ⟨gb,2,none⟩=some (.int .i64 0):=hb.cell 2;have f2:=hb.frz 2;have hl:=hb.lt;have HB:Hid (BdAt (w.setCell ⟨gb,2,none⟩ (.int .i64 0)) gb g k):=lh (by have h:=Blk.set hb 2 (.int .i64 0);exact h);have HK:Hid (KpP (·=gb) w (w.setCell ⟨gb,2,none⟩ (.int .i64 0))):=lh ((KpP.refl (·=gb) w).set (x:=⟨gb,2,none⟩) (.inl rfl) _);clear hb;go_enter Tryz.func172,Tryz.ntmps172
 go_wp2
 generalize w.setCell ⟨gb,2,none⟩ (.int .i64 0)=w1 at *;exact bodyPost_end (v:=.tuple #[]) (by simp[results,Tryz.results172,go_sem]) rfl ⟨rfl,HB.out,HK.out⟩
def RetNd (S:World→Nat→List Int→Prop)(gb g k:Nat)(t:Sh)(w:World)(e:Ending)(w':World):Prop:=∃v,e=.returned v∧RtAt S w' v t∧BdAt w' gb g k∧KpP (·=gb) w w'
theorem pair_node {w0:World}{g:Nat}{ok:Int→Prop}{S:World→Nat→List Int→Prop}(M:Mo w0 g ok S)(w:World)(x0:Ext w0 w)(gb k:Nat)(hgb:w0.heap.size≤gb)(hb:BdAt w gb g k)(hk:k≤1000000)(vl vr:Value)(l r:Sh)(hl:RtAt S w vl l)(hr:RtAt S w vr r)
 (okl:∀x∈l.text,ok x) (okr:∀x∈r.text,ok x) (hn:l.text.length+r.text.length≤65536) (hh:l.hgt≤1000∧r.hgt≤1000) :
 Calls Tryz.prog 140 #[.pointer (some ⟨gb,0,none⟩),vl,vr] w (RetNd S gb g (k+1) (.nd l r) w):=by
 obtain⟨T1,b1,s1,K1,K2,K3,rfl,hm1,hs1⟩:=hl.meth;obtain⟨T2,b2,s2,K4,K5,K6,rfl,hm2,hs2⟩:=hr.meth;have c0:w.cell? ⟨gb,0,none⟩=some (.pointer (some ⟨g,0,none⟩)):=hb.cell 0;have HM1:=lh hm1;have HM2:=lh hm2;have HL:=lh hl;have HR:=lh hr;have HJ:=fun(w':World) (x:Ext w w')=>lh (M.join w' (x0.trans x) s1 s2 _ _ (M.ext hs1 x) (M.ext hs2 x) okl okr hn);clear hl hr hs1 hs2;have m1:=hm1.sum.nil_;have m2:=hm1.sum.mth;have m3:=hm1.sum.ent;have m4:=hm2.sum.nil_;have m5:=hm2.sum.mth;have m6:=hm2.sum.ent;clear hm1 hm2;go_enter Tryz.func140,Tryz.ntmps140
 go_upto_region 1 with fail
 have j1:=kc0 c0;refine Xr.start [] kr ?_;refine Xtk 0 ?_
 iterate 4(refine Xtn ?_)
 refine Xtk 6 ?_;refine Xcl 5 fun w1 hE1 hK1 K hKK=>?_;go_simp;refine(HM1.out.sum.call w1 hE1).mono ?_;rintro e w2 ⟨rfl,rfl⟩;have x2:=Ext.rfl' w1;refine hKK _ _ x2 ?_;clear hKK;refine ptm ?_;refine Xcl 7 fun w3 hE3 hK3 K hKK=>?_;go_simp;refine(HM2.out.sum.call w3 ((hE1.trans x2).trans hE3)).mono ?_;rintro e w4 ⟨rfl,rfl⟩;have x4:=Ext.rfl' w3;refine hKK _ _ x4 ?_;clear hKK;refine ptm ?_;refine Xcl 8 fun w5 hE5 hK5 K hKK=>?_;go_simp;refine(HJ w5 ((((hE1.trans x2).trans hE3).trans x4).trans hE5)).out.mono ?_;rintro e w6 ⟨gs,rfl,hs,x6⟩;refine hKK _ _ x6 ?_;clear hKK;refine ptm ?_;refine Xtk 9 ?_
 iterate 4(refine Xtn ?_)
 refine Xdn fun w7 hE7 hK7=>?_;have X7:=(((((hE1.trans x2).trans hE3).trans x4).trans hE5).trans x6).trans hE7;have HB7:=lh (hb.ext X7);have HS7:=lh (M.ext hs hE7);have HX7:=lh X7;clear hE1 x2 hE3 x4 hE5 x6 hE7 hK1 hK3 hK5 hK7 X7 hs hb c0 j1 HJ m1 m2 m3 m4 m5 m6
 go_upto_region 3 with(go_at_call 172;refine(note_any w7 gb g k HB7.out).mono ?_;rintro e w8 ⟨rfl,hb8,hk8⟩)
 have HK8:=lh (KpP.extThen HX7.out hk8);have HQ8:=TyQ.one HB7.out;have HS8:=lh (M.kp HS7.out hk8 HQ8);have HL8:=lh (RtAt.kp M hk8 HQ8 (RtAt.ext M HX7.out HL.out));have HR8:=lh (RtAt.kp M hk8 HQ8 (RtAt.ext M HX7.out HR.out));clear HQ8 hk8 HS7 HX7 HB7 HL HR HM1 HM2;obtain⟨b0,b1',b2',z0,z1,z2,_⟩:=Blk.c3 hb8;have HB9:Hid (BdAt (w8.setCell ⟨gb,1,none⟩ (.int .i64 ((k:Int)+1))) gb g (k+1)):=lh (by have h:=Blk.set hb8 1 (.int .i64 ((k:Int)+1));exact h);have HK9:=lh ((KpP.refl (·=gb) w8).set (x:=⟨gb,1,none⟩) (.inl rfl) (.int .i64 ((k:Int)+1)));have HQ9:=TyQ.one hb8;have HS9:=lh (M.kp HS8.out HK9.out HQ9);have HL9:=lh (RtAt.kp M HK9.out HQ9 HL8.out);have HR9:=lh (RtAt.kp M HK9.out HQ9 HR8.out);have HX9:=lh (HK8.out.trans HK9.out);clear HQ9 HK9 HS8 HL8 HR8 HK8 hb8
 go_upto_region 4 with fail
 generalize w8.setCell ⟨gb,1,none⟩ (.int .i64 ((k:Int)+1))=w9 at *;clear b0 b1' b2' z0 z1 z2;obtain⟨T1',b1'',s1',K1',K2',K3',e1,hm1,_⟩:=HL9.out.meth;obtain⟨T2',b2'',s2',K4',K5',K6',e2,hm2,_⟩:=HR9.out.meth;injection e1 with e1a e1b;injection e1b with e1b;injection e1b with e1b;injection e1b with e1b;subst e1a e1b
 injection e2 with e2a e2b;injection e2b with e2b;injection e2b with e2b;injection e2b with e2b;subst e2a e2b
 have m1:=hm1.size.nil_;have m2:=hm1.size.mth;have m3:=hm1.size.ent;have m4:=hm2.size.nil_;have m5:=hm2.size.mth;have m6:=hm2.size.ent;have n1:=hm1.height.nil_;have n2:=hm1.height.mth;have n3:=hm1.height.ent;have n4:=hm2.height.nil_;have n5:=hm2.height.mth;have n6:=hm2.height.ent;have HM1:=lh hm1;have HM2:=lh hm2;have S0:=lh (Ext.rfl' w9);clear hm1 hm2;obtain⟨a,ha⟩:∃a,a=l.text.length:=⟨_,rfl⟩;obtain⟨b,hb⟩:∃b,b=r.text.length:=⟨_,rfl⟩;obtain⟨p,hp⟩:∃p,p=l.hgt:=⟨_,rfl⟩;obtain⟨q,hq⟩:∃q,q=r.hgt:=⟨_,rfl⟩;have HAB:=lh (And.intro (And.intro ha hb) (And.intro hp hq))
 rw[←ha,←hb] at hn
 rw[←hp,←hq] at hh
 rw[←ha,←hp] at HM1
 rw[←hb,←hq] at HM2;clear ha hb hp hq
 go_wp2_with (first|(go_at_fn K1';refine(HM1.out.size.call _ S0.out).mono ?_;rintro e wa ⟨rfl,rfl⟩)|(go_at_fn K2';refine(HM1.out.height.call _ S0.out).mono ?_;rintro e wa ⟨rfl,rfl⟩)|(go_at_fn K4';refine(HM2.out.size.call _ S0.out).mono ?_;rintro e wa ⟨rfl,rfl⟩)|(go_at_fn K5';refine(HM2.out.height.call _ S0.out).mono ?_;rintro e wa ⟨rfl,rfl⟩))
 all_goals
  go_ret
  obtain⟨⟨ha,hb⟩,hp,hq⟩:=HAB.out;have XN:=Ext.alloc w9;refine⟨inV w9.heap.size,rfl,⟨w9.heap.size,_,_,gs,rfl,?_,RtAt.ext M (XN _) HL9.out,RtAt.ext M (XN _) HR9.out,M.ext HS9.out (XN _)⟩,HB9.out.ext (XN _),HX9.out.thenExt (XN _)⟩;have e1:(((l.text++r.text).length:Nat):Int)=(a:Int)+b:=by rw[List.length_append];omega
  have e2:(((Sh.nd l r).hgt:Nat):Int)=(p:Int)+1∨(((Sh.nd l r).hgt:Nat):Int)=(q:Int)+1:=by simp only[Sh.hgt];omega
  have e3:(((Sh.nd l r).hgt:Nat):Int)=((max p q:Nat):Int)+1:=by simp only[Sh.hgt];omega
  rw[e1,e3]
  first
   | (
    have e4:max p q=p:=om;rw[e4];exact Blk.new _ _ _)
   | (
    have e4:max p q=q:=om;rw[e4];exact Blk.new _ _ _)
end
end Go.Proofs.YtmocoldobnimfaaGreat
