/- Texts of this proof: R2 R3 RI. -/
import Derived.Test.YtmpcoifnpflapaaGreatER09
import Derived.Shelf.Abstract
import Derived.RangeFuncKeeps
import Derived.RangeFuncBound
import Derived.RangeFuncLeaves
import Derived.OwnWalkIn
import Derived.TacticsInMore
import Derived.LoopNIn
import Derived.LoopIn
set_option linter.all false
set_option maxRecDepth 100000
set_option maxHeartbeats 8000000
namespace Go.Proofs.YtmpcoifnpflapaaGreat
section
open Go.RowKit
attribute [local go_sem ↓] Go.wp_at_zero Go.wp_at_succ
def RetE (v:Value)(w:World)(e:Ending)(w':World):Prop:=e=.returned v/\w=w'
theorem lfSize_any (w:World)(b:Nat)(A:Option Addr)(n c:Nat)(gs:Value)(hb:Blk w b 258 #[.slice A n c,gs]):Calls Tryz.prog 271 #[.pointer (some ⟨b,0,none⟩)] w (RetE (.int .i64 n) w):=by
 obtain⟨c0,c1,_⟩:=hb.c2;go_enter Tryz.func271,Tryz.ntmps271
 go_wp2
 go_ret
 exact⟨rfl,rfl⟩
theorem lfHeight_any (w:World)(b:Nat):Calls Tryz.prog 270 #[.pointer (some ⟨b,0,none⟩)] w (RetE (.int .i64 1) w):=by
 go_enter Tryz.func270,Tryz.ntmps270
 go_wp2
 go_ret
 exact⟨rfl,rfl⟩
theorem lfSum_any (w:World)(b:Nat)(x gs:Value)(hb:Blk w b 258 #[x,gs]):Calls Tryz.prog 272 #[.pointer (some ⟨b,0,none⟩)] w (RetE gs w):=by
 obtain⟨c0,c1,_⟩:=hb.c2;go_enter Tryz.func272,Tryz.ntmps272
 go_wp2
 go_ret
 exact⟨rfl,rfl⟩
theorem inSize_any (w:World)(b:Nat)(v0 v1 v2 v3 v4:Value)(hb:Blk w b 261 #[v0,v1,v2,v3,v4]):Calls Tryz.prog 274 #[.pointer (some ⟨b,0,none⟩)] w (RetE v2 w):=by
 have c0:w.cell? ⟨b,2,none⟩=some v2:=hb.cell 2;go_enter Tryz.func274,Tryz.ntmps274
 go_wp2
 go_ret
 exact⟨rfl,rfl⟩
theorem inHeight_any (w:World)(b:Nat)(v0 v1 v2 v3 v4:Value)(hb:Blk w b 261 #[v0,v1,v2,v3,v4]):Calls Tryz.prog 273 #[.pointer (some ⟨b,0,none⟩)] w (RetE v3 w):=by
 have c0:w.cell? ⟨b,3,none⟩=some v3:=hb.cell 3;go_enter Tryz.func273,Tryz.ntmps273
 go_wp2
 go_ret
 exact⟨rfl,rfl⟩
theorem inSum_any (w:World)(b:Nat)(v0 v1 v2 v3 v4:Value)(hb:Blk w b 261 #[v0,v1,v2,v3,v4]):Calls Tryz.prog 275 #[.pointer (some ⟨b,0,none⟩)] w (RetE v4 w):=by
 have c0:w.cell? ⟨b,4,none⟩=some v4:=hb.cell 4;go_enter Tryz.func275,Tryz.ntmps275
 go_wp2
 go_ret
 exact⟨rfl,rfl⟩
structure MthOk (T b:Nat)(nm:String)(x:Value)(K:Nat)(w:World):Prop where
 nil_:∀w,(nilAhead 475 T (.pointer (some ⟨b,0,none⟩)) nm).run Tryz.prog w=.ok (some false) w
 mth:∀w,(method 475 T (.pointer (some ⟨b,0,none⟩)) nm).run Tryz.prog w=.ok (K,.pointer (some ⟨b,0,none⟩)) w
 ent:∀(args:Array Value) (w:World),(callFunc K args).run Tryz.prog w=.ok (.enter K args) w
 call:∀w',Ext w w'->Calls Tryz.prog K #[.pointer (some ⟨b,0,none⟩)] w' (RetE x w')
structure NdM (w:World)(T b:Nat)(n h:Nat)(s:Value)(K1 K2 K3:Nat):Prop where
 size : MthOk T b "rexmill/rope.size" (.int .i64 n) K1 w
 height : MthOk T b "rexmill/rope.height" (.int .i64 h) K2 w
 sum : MthOk T b "rexmill/rope.sum" s K3 w
theorem RtAt.meth {S:World->Nat->List Int->Prop}{w:World}:∀{t:Sh} {v:Value},RtAt S w v t->∃T b gs K1 K2 K3,v=.iface T (.pointer (some ⟨b,0,none⟩))/\NdM w T b t.text.length t.hgt (.pointer (some ⟨gs,0,none⟩)) K1 K2 K3/\S w gs t.text
 | .lf ts,v,⟨b,A,c,gs,e,hb,hi,ht,hs⟩=>⟨256,b,gs,271,270,272,e,
  ⟨⟨fun w=>by kernel_rfl,fun w=>by kernel_rfl,Tryz.call271,fun w' x=>lfSize_any w' b A ts.length c _ (hb.ext x)⟩,⟨fun w=>by kernel_rfl,fun w=>by kernel_rfl,Tryz.call270,fun w' x=>lfHeight_any w' b⟩,
   ⟨fun w=>by kernel_rfl,fun w=>by kernel_rfl,Tryz.call272,fun w' x=>lfSum_any w' b _ _ (hb.ext x)⟩⟩,hs⟩
 | .nd l r,v,⟨b,vl,vr,gs,e,hb,h1,h2,hs⟩=>⟨259,b,gs,274,273,275,e,
  ⟨⟨fun w=>by kernel_rfl,fun w=>by kernel_rfl,Tryz.call274,fun w' x=>inSize_any w' b _ _ _ _ _ (hb.ext x)⟩,⟨fun w=>by kernel_rfl,fun w=>by kernel_rfl,Tryz.call273,fun w' x=>inHeight_any w' b _ _ _ _ _ (hb.ext x)⟩,
   ⟨fun w=>by kernel_rfl,fun w=>by kernel_rfl,Tryz.call275,fun w' x=>inSum_any w' b _ _ _ _ _ (hb.ext x)⟩⟩,hs⟩
def BdAt (w:World)(gb g k:Nat):Prop:=Blk w gb 162 #[.pointer (some ⟨g,0,none⟩),.int .i64 k,.int .i64 0]
theorem BdAt.ext {w w':World}{gb g k:Nat}(h:BdAt w gb g k)(x:Ext w w'):BdAt w' gb g k:=Blk.ext h x
theorem KpP.thenExt {p:Nat->Prop}{a b c:World}(h:KpP p a b)(x:Ext b c):KpP p a c:=h.trans (KpP.of_ext x)
theorem KpP.extThen {p:Nat->Prop}{a b c:World}(x:Ext a b)(h:KpP p b c):KpP p a c:=(KpP.of_ext x).trans h
theorem note_any (w:World)(gb g k:Nat)(hb:BdAt w gb g k):Calls Tryz.prog 190 #[.pointer (some ⟨gb,0,none⟩),.int .i64 0] w (fun e w'=>e=.returned (.tuple #[])/\BdAt w' gb g k/\KpP (·=gb) w w'):=by
 have c2:w.cell? ⟨gb,2,none⟩=some (.int .i64 0):=hb.cell 2;have f2:=hb.frz 2;have hl:=hb.lt;have HB:Hid (BdAt (w.setCell ⟨gb,2,none⟩ (.int .i64 0)) gb g k):=lh (by have h:=Blk.set hb 2 (.int .i64 0);exact h);have HK:Hid (KpP (·=gb) w (w.setCell ⟨gb,2,none⟩ (.int .i64 0))):=lh ((KpP.refl (·=gb) w).set (x:=⟨gb,2,none⟩) (.inl rfl) _);clear hb;go_enter Tryz.func190,Tryz.ntmps190
 go_wp2
 generalize w.setCell ⟨gb,2,none⟩ (.int .i64 0)=w1 at *;exact bodyPost_end (v:=.tuple #[]) (by simp[results,Tryz.results190,go_sem]) rfl ⟨rfl,HB.out,HK.out⟩
def RetNdR (S:World->Nat->List Int->Prop)(gb g k:Nat)(t:Sh)(w:World)(e:Ending)(w':World):Prop:=∃v,e=.returned v/\RtAt S w' v t/\BdAt w' gb g k/\KpP (·=gb) w w'
theorem pair_node {w0:World}{g:Nat}{ok:Int->Prop}{S:World->Nat->List Int->Prop}(M:Mo w0 g ok S)(w:World)(x0:Ext w0 w)(gb k:Nat)(hgb:w0.heap.size<=gb)(hb:BdAt w gb g k)(hk:k<=1000000)(vl vr:Value)(l r:Sh)(hl:RtAt S w vl l)(hr:RtAt S w vr r)
 (okl:∀x∈l.text,ok x) (okr:∀x∈r.text,ok x) (hn:l.text.length+r.text.length<=65536) (hh:l.hgt<=1000/\r.hgt<=1000) :
 Calls Tryz.prog 149 #[.pointer (some ⟨gb,0,none⟩),vl,vr] w (RetNdR S gb g (k+1) (.nd l r) w):=by
 obtain⟨T1,b1,s1,K1,K2,K3,rfl,hm1,hs1⟩:=hl.meth;obtain⟨T2,b2,s2,K4,K5,K6,rfl,hm2,hs2⟩:=hr.meth;have c0:w.cell? ⟨gb,0,none⟩=some (.pointer (some ⟨g,0,none⟩)):=hb.cell 0;have HM1:=lh hm1;have HM2:=lh hm2;have HL:=lh hl;have HR:=lh hr;have HJ:=fun(w':World) (x:Ext w w')=>lh (M.join w' (x0.trans x) s1 s2 _ _ (M.ext hs1 x) (M.ext hs2 x) okl okr hn);clear hl hr hs1 hs2;have m1:=hm1.sum.nil_;have m2:=hm1.sum.mth;have m3:=hm1.sum.ent;have m4:=hm2.sum.nil_;have m5:=hm2.sum.mth;have m6:=hm2.sum.ent;clear hm1 hm2;go_enter Tryz.func149,Tryz.ntmps149
 go_upto_region 1 with fail
 have j1:=kc0 c0;refine Xr.start [] kr ?_;refine Xtk 0 ?_
 iterate 4(refine Xtn ?_)
 refine Xtk 6 ?_;refine Xcl 5 fun w1 hE1 hK1 K hKK=>?_;go_simp;refine(HM1.out.sum.call w1 hE1).mono ?_;rintro e w2 ⟨rfl,rfl⟩;have x2:=Ext.rfl' w1;refine hKK _ _ x2 ?_;clear hKK;refine ptm ?_;refine Xcl 7 fun w3 hE3 hK3 K hKK=>?_;go_simp;refine(HM2.out.sum.call w3 ((hE1.trans x2).trans hE3)).mono ?_;rintro e w4 ⟨rfl,rfl⟩;have x4:=Ext.rfl' w3;refine hKK _ _ x4 ?_;clear hKK;refine ptm ?_;refine Xcl 8 fun w5 hE5 hK5 K hKK=>?_;go_simp;refine(HJ w5 ((((hE1.trans x2).trans hE3).trans x4).trans hE5)).out.mono ?_;rintro e w6 ⟨gs,rfl,hs,x6⟩;refine hKK _ _ x6 ?_;clear hKK;refine ptm ?_;refine Xtk 9 ?_
 iterate 4(refine Xtn ?_)
 refine Xdn fun w7 hE7 hK7=>?_;have X7:=(((((hE1.trans x2).trans hE3).trans x4).trans hE5).trans x6).trans hE7;have HB7:=lh (hb.ext X7);have HS7:=lh (M.ext hs hE7);have HX7:=lh X7;clear hE1 x2 hE3 x4 hE5 x6 hE7 hK1 hK3 hK5 hK7 X7 hs hb c0 j1 HJ m1 m2 m3 m4 m5 m6
 go_upto_region 3 with(go_at_call 190;refine(note_any w7 gb g k HB7.out).mono ?_;rintro e w8 ⟨rfl,hb8,hk8⟩)
 have HK8:=lh (KpP.extThen HX7.out hk8);have HQ8:=TyQ.one HB7.out;have HS8:=lh (M.kp HS7.out hk8 HQ8);have HL8:=lh (RtAt.kp M hk8 HQ8 (RtAt.ext M HX7.out HL.out));have HR8:=lh (RtAt.kp M hk8 HQ8 (RtAt.ext M HX7.out HR.out));clear HQ8 hk8 HS7 HX7 HB7 HL HR HM1 HM2;obtain⟨b0,b1',b2',z0,z1,z2,_⟩:=Blk.c3 hb8;have HB9:Hid (BdAt (w8.setCell ⟨gb,1,none⟩ (.int .i64 ((k:Int)+1))) gb g (k+1)):=lh (by have h:=Blk.set hb8 1 (.int .i64 ((k:Int)+1));exact h);have HK9:=lh ((KpP.refl (·=gb) w8).set (x:=⟨gb,1,none⟩) (.inl rfl) (.int .i64 ((k:Int)+1)));have HQ9:=TyQ.one hb8;have HS9:=lh (M.kp HS8.out HK9.out HQ9);have HL9:=lh (RtAt.kp M HK9.out HQ9 HL8.out);have HR9:=lh (RtAt.kp M HK9.out HQ9 HR8.out);have HX9:=lh (HK8.out.trans HK9.out);clear HQ9 HK9 HS8 HL8 HR8 HK8 hb8
 go_upto_region 4 with fail
 generalize w8.setCell ⟨gb,1,none⟩ (.int .i64 ((k:Int)+1))=w9 at *;clear b0 b1' b2' z0 z1 z2;obtain⟨T1',b1'',s1',K1',K2',K3',e1,hm1,_⟩:=HL9.out.meth;obtain⟨T2',b2'',s2',K4',K5',K6',e2,hm2,_⟩:=HR9.out.meth;injection e1 with e1a e1b;injection e1b with e1b;injection e1b with e1b;injection e1b with e1b;subst e1a e1b
 injection e2 with e2a e2b;injection e2b with e2b;injection e2b with e2b;injection e2b with e2b;subst e2a e2b
 have m1:=hm1.size.nil_;have m2:=hm1.size.mth;have m3:=hm1.size.ent;have m4:=hm2.size.nil_;have m5:=hm2.size.mth;have m6:=hm2.size.ent;have n1:=hm1.height.nil_;have n2:=hm1.height.mth;have n3:=hm1.height.ent;have n4:=hm2.height.nil_;have n5:=hm2.height.mth;have n6:=hm2.height.ent;have HM1:=lh hm1;have HM2:=lh hm2;have S0:=lh (Ext.rfl' w9);clear hm1 hm2;obtain⟨a,ha⟩:∃a,a=l.text.length:=⟨_,rfl⟩;obtain⟨b,hb⟩:∃b,b=r.text.length:=⟨_,rfl⟩;obtain⟨p,hp⟩:∃p,p=l.hgt:=⟨_,rfl⟩;obtain⟨q,hq⟩:∃q,q=r.hgt:=⟨_,rfl⟩;have HAB:=lh (And.intro (And.intro ha hb) (And.intro hp hq))
 rw[<-ha,<-hb] at hn
 rw[<-hp,<-hq] at hh
 rw[<-ha,<-hp] at HM1
 rw[<-hb,<-hq] at HM2;clear ha hb hp hq
 go_wp2_with (first|(go_at_fn K1';refine(HM1.out.size.call _ S0.out).mono ?_;rintro e wa ⟨rfl,rfl⟩)|(go_at_fn K2';refine(HM1.out.height.call _ S0.out).mono ?_;rintro e wa ⟨rfl,rfl⟩)|(go_at_fn K4';refine(HM2.out.size.call _ S0.out).mono ?_;rintro e wa ⟨rfl,rfl⟩)|(go_at_fn K5';refine(HM2.out.height.call _ S0.out).mono ?_;rintro e wa ⟨rfl,rfl⟩))
 all_goals
  go_ret
  obtain⟨⟨ha,hb⟩,hp,hq⟩:=HAB.out;have XN:=Ext.alloc w9;refine⟨inV w9.heap.size,rfl,⟨w9.heap.size,_,_,gs,rfl,?_,RtAt.ext M (XN _) HL9.out,RtAt.ext M (XN _) HR9.out,M.ext HS9.out (XN _)⟩,HB9.out.ext (XN _),HX9.out.thenExt (XN _)⟩;have e1:(((l.text++r.text).length:Nat):Int)=(a:Int)+b:=by rw[List.length_append];omega
  have e2:(((Sh.nd l r).hgt:Nat):Int)=(p:Int)+1\/(((Sh.nd l r).hgt:Nat):Int)=(q:Int)+1:=by simp only[Sh.hgt];omega
  have e3:(((Sh.nd l r).hgt:Nat):Int)=((max p q:Nat):Int)+1:=by simp only[Sh.hgt];omega
  rw[e1,e3]
  first
   | (
    have e4:max p q=p:=om;rw[e4];exact Blk.new _ _ _)
   | (
    have e4:max p q=q:=om;rw[e4];exact Blk.new _ _ _)
theorem Kp.kpPs {gb:Nat}{a b:World}(h:Kp [gb] a b):KpP (·=gb) a b:=KpP.kp h (fun i hi=>by simpa using hi)
theorem KpP.kps {gb:Nat}{a b:World}(h:KpP (·=gb) a b):Kp [gb] a b:=⟨h.os,h.tape,h.output,h.size,fun k hk hn=>h.block k hk (fun e=>hn (by simp[e]))⟩
theorem KpP.extOf {gb:Nat}{e a b:World}(h:KpP (·=gb) a b)(x:Ext e a)(hg:e.heap.size<=gb):Ext e b:=Ext.kp x h (fun i hi=>by subst hi;exact hg)
section
variable {w0:World} {g:Nat} {ok:Int->Prop} {S:World->Nat->List Int->Prop}
structure Tr (S:World->Nat->List Int->Prop)(ok:Int->Prop)(w:World)(v:Value)(t:Sh):Prop where
 at_:RtAt S w v t
 ok_:∀x∈t.text,ok x
 h:t.hgt<=1000
 n:t.text.length<=65536
theorem Tr.kp (M:Mo w0 g ok S){w w':World}{v:Value}{t:Sh}{gb k:Nat}(h:Tr S ok w v t)(hb:BdAt w gb g k)(kk:KpP (·=gb) w w'):Tr S ok w' v t:=⟨RtAt.kp M kk (TyQ.one hb) h.at_,h.ok_,h.h,h.n⟩
theorem Tr.ext (M:Mo w0 g ok S){w w':World}{v:Value}{t:Sh}(h:Tr S ok w v t)(x:Ext w w'):Tr S ok w' v t:=⟨RtAt.ext M x h.at_,h.ok_,h.h,h.n⟩
structure TrB (S:World->Nat->List Int->Prop)(ok:Int->Prop)(gb g k:Nat)(t:Sh)(w w':World)(v:Value):Prop where
 tr:Tr S ok w' v t
 bd:BdAt w' gb g k
 kp:KpP (·=gb) w w'
def RetTr (S:World->Nat->List Int->Prop)(ok:Int->Prop)(gb g k:Nat)(t:Sh)(w:World)(e:Ending)(w':World):Prop:=∃v,e=.returned v/\TrB S ok gb g k t w w' v
theorem pair_any (M:Mo w0 g ok S)(w:World)(x0:Ext w0 w)(gb k:Nat)(hgb:w0.heap.size<=gb)(hb:BdAt w gb g k)(hk:k<=1000000)(vl vr:Value)(l r:Sh)(hl:Tr S ok w vl l)(hr:Tr S ok w vr r)
 (hn:l.text.length+r.text.length<=65536) (hh:(Sh.nd l r).hgt<=1000) :
 Calls Tryz.prog 149 #[.pointer (some ⟨gb,0,none⟩),vl,vr] w (RetTr S ok gb g (k+1) (.nd l r) w):=by
 refine(pair_node M w x0 gb k hgb hb hk vl vr l r hl.at_ hr.at_ hl.ok_ hr.ok_ hn ⟨hl.h,hr.h⟩).mono ?_;rintro e w' ⟨v,rfl,h1,h2,h3⟩;refine⟨v,rfl,⟨h1,fun x hx=>?_,hh,by simpa[Sh.text] using hn⟩,h2,h3⟩;rcases List.mem_append.1 hx with hx|hx
 ·exact hl.ok_ x hx
 ·exact hr.ok_ x hx
theorem Tr.nd {w:World}{v:Value}{l r:Sh}(h:Tr S ok w v (.nd l r)):∃(b:Nat) (vl vr:Value) (gs:Nat),v=inV b/\Blk w b 261 #[vl,vr,.int .i64 (l.text++r.text).length,.int .i64 (Sh.nd l r).hgt,.pointer (some ⟨gs,0,none⟩)]/\Tr S ok w vl l/\Tr S ok w vr r:=by
 obtain⟨b,vl,vr,gs,e,hb,h1,h2,hs⟩:=h.at_;have e1:l.hgt<=1000/\r.hgt<=1000:=by have:=h.h;simp only[Sh.hgt] at this;omega
 have e2:l.text.length<=65536/\r.text.length<=65536:=by have:=h.n;simp only[Sh.text,List.length_append] at this;omega
 exact⟨b,vl,vr,gs,e,hb,⟨h1,fun x hx=>h.ok_ x (List.mem_append_left _ hx),e1.1,e2.1⟩,⟨h2,fun x hx=>h.ok_ x (List.mem_append_right _ hx),e1.2,e2.2⟩⟩
theorem Tr.as {w:World}{T b:Nat}{t:Sh}(h:Tr S ok w (.iface T (.pointer (some ⟨b,0,none⟩))) t):(∃l r,t=.nd l r/\T=259)\/(∃ts,t=.lf ts/\T=256):=by
 cases t with
 | lf ts=>obtain⟨b',A,c,gs,e,_⟩:=h.at_;cases e;exact .inr ⟨ts,rfl,rfl⟩
 | nd l r=>obtain⟨b',vl,vr,gs,e,_⟩:=h.at_;cases e;exact .inl ⟨l,r,rfl,rfl⟩
end
theorem Blk.neT {w:World}{a b T T':Nat}{cs cs':Array Value}(h:Blk w a T cs)(k:Blk w b T' cs')(hT:T≠T'):a≠b:=fun e=>by
 subst e;have h1:some (Obj.cells cs T (0,0))=some (.cells cs' T' (0,0)):=Eq.trans (Eq.symm h) k;injection h1 with h1
 injection h1 with _ h1
 exact hT h1
theorem asIn (w:World)(p:Value):(Instr.typeAssert (.iface 259 p) 165 259 true).run Tryz.prog w=.ok (.tuple #[p,.bool true]) w:=by kernel_rfl
theorem asLfIn (w:World)(p:Value):(Instr.typeAssert (.iface 256 p) 165 259 true).run Tryz.prog w=.ok (.tuple #[.pointer none,.bool false]) w:=by kernel_rfl
theorem asLf (w:World)(p:Value):(Instr.typeAssert (.iface 256 p) 165 256 true).run Tryz.prog w=.ok (.tuple #[p,.bool true]) w:=by kernel_rfl
theorem asInLf (w:World)(p:Value):(Instr.typeAssert (.iface 259 p) 165 256 true).run Tryz.prog w=.ok (.tuple #[.pointer none,.bool false]) w:=by kernel_rfl
theorem asNil (w:World):(Instr.typeAssert .nilIface 165 259 true).run Tryz.prog w=.ok (.tuple #[.pointer none,.bool false]) w/\(Instr.typeAssert .nilIface 165 256 true).run Tryz.prog w=.ok (.tuple #[.pointer none,.bool false]) w:=⟨by kernel_rfl,by kernel_rfl⟩
theorem bal5 {w0:World}{g:Nat}{ok:Int->Prop}{S:World->Nat->List Int->Prop}(M:Mo w0 g ok S)(w:World)(x0:Ext w0 w)(gb k:Nat)(hgb:w0.heap.size<=gb)(hb:BdAt w gb g k)(hk:k<=900000)(vl vr:Value)(l a b y:Sh)(hl:Tr S ok w vl l)(hr:Tr S ok w vr (.nd (.nd a b) y))
 (hn:l.text.length+(Sh.nd (.nd a b) y).text.length<=65536) (h1:l.hgt+1<(Sh.nd (.nd a b) y).hgt) (h2:y.hgt<(Sh.nd a b).hgt) (hh:(Sh.nd (.nd l a) (.nd b y)).hgt<=1000) :
 Calls Tryz.prog 148 #[.pointer (some ⟨gb,0,none⟩),vl,vr] w (RetTr S ok gb g (k+3) (.nd (.nd l a) (.nd b y)) w):=by
 obtain⟨b2,vx,vy,gs,rfl,hbr,hx,hy⟩:=hr.nd;obtain⟨bx,va,vb,gs',rfl,hbx,ha,hbb⟩:=hx.nd;obtain⟨T1,b1,s1,K1,K2,K3,rfl,hm1,hs1⟩:=hl.at_.meth;obtain⟨_,_,s2,K4,K5,K6,e2,hm2,hs2⟩:=hr.at_.meth;obtain⟨_,_,s3,K7,K8,K9,e3,hm3,hs3⟩:=hx.at_.meth;obtain⟨Ty,by_,s4,Ka,Kb,Kc,rfl,hm4,hs4⟩:=hy.at_.meth;cases e2
 cases e3
 have n1:=hm1.height.nil_;have n2:=hm1.height.mth;have n3:=hm1.height.ent;have n4:=hm2.height.nil_;have n5:=hm2.height.mth;have n6:=hm2.height.ent;have n7:=hm3.height.nil_;have n8:=hm3.height.mth;have n9:=hm3.height.ent;have na:=hm4.height.nil_;have nb:=hm4.height.mth;have nc:=hm4.height.ent;have HM1:=lh hm1;have HM2:=lh hm2;have HM3:=lh hm3;have HM4:=lh hm4;have c0:w.cell? ⟨b2,0,none⟩=some (inV bx):=hbr.cell 0;have c1:w.cell? ⟨b2,1,none⟩=some (.iface Ty (.pointer (some ⟨by_,0,none⟩))):=hbr.cell 1;have c2:w.cell? ⟨bx,0,none⟩=some va:=hbx.cell 0;have c3:w.cell? ⟨bx,1,none⟩=some vb:=hbx.cell 1;unfold inV at c0;have h1I:((Sh.nd (.nd a b) y).hgt:Int)>(l.hgt:Int)+1:=om;have h2I:((Sh.nd a b).hgt:Int)>(y.hgt:Int):=om;clear hm1 hm2 hm3 hm4;unfold inV;have ta:=asIn;have S0:=Ext.rfl' w;have hlh:=hl.h;have hrh:=hr.h;go_enter Tryz.func148,Tryz.ntmps148
 go_upto_region 4 with(first|(go_at_fn K5;refine(HM2.out.height.call _ S0).mono ?_;rintro e wa ⟨rfl,rfl⟩)|(go_at_fn K2;refine(HM1.out.height.call _ S0).mono ?_;rintro e wa ⟨rfl,rfl⟩))
 have j0:=kc0 c0;have j1:=kc0 c1;refine Xr.start [] kr ?_;refine Xtk 0 ?_;refine Xtn ?_
 iterate 4(first|refine Xtn ?_|refine Xsn ?_)
 first|refine Xtk 7 ?_|refine Xsk 7 ?_
 iterate 3(first|refine Xtn ?_|refine Xsn ?_)
 refine Xcl 6 fun w1 hE1 hK1 K hKK=>?_;go_simp;refine(HM3.out.height.call w1 hE1).mono ?_;rintro e w2 ⟨rfl,rfl⟩;refine hKK _ _ (Ext.rfl' _) ?_;clear hKK;refine ptm ?_;refine Xcl 11 fun w3 hE3 hK3 K hKK=>?_;go_simp;refine(HM4.out.height.call w3 (hE1.trans hE3)).mono ?_;rintro e w2 ⟨rfl,rfl⟩;refine hKK _ _ (Ext.rfl' _) ?_;clear hKK;refine ptm ?_
 first|refine Xtk 12 ?_|refine Xsk 12 ?_
 refine Xtn ?_;refine Xdn fun w4 hE4 hK4=>?_;have X4:=lh hK4.nil;have hb4:=hb.ext X4.out;have hl4:=lh (hl.ext M X4.out);have ha4:=lh (ha.ext M X4.out);have hbb4:=lh (hbb.ext M X4.out);have hy4:=lh (hy.ext M X4.out);have d0:=fun(w':World) (h:Kp [gb] w4 w')=>h.cell (X4.out.cell c0) (by simpa using Blk.neT hbr hb de);have d1:=fun(w':World) (h:Kp [gb] w4 w')=>h.cell (X4.out.cell c1) (by simpa using Blk.neT hbr hb de);have d2:=fun(w':World) (h:Kp [gb] w4 w')=>h.cell (X4.out.cell c2) (by simpa using Blk.neT hbx hb de);have d3:=fun(w':World) (h:Kp [gb] w4 w')=>h.cell (X4.out.cell c3) (by simpa using Blk.neT hbx hb de);have XX4:=lh (x0.trans X4.out);clear hE1 hK1 hE3 hK3 hE4 hK4 c0 c1 c2 c3 j0 j1 n1 n2 n3 n4 n5 n6 n7 n8 n9 na nb nc HM1 HM2 HM3 HM4 hl hr hx hy ha hbb hbr hbx hs1 hs2 hs3 hs4 hb S0;simp only[Sh.text,List.length_append] at hn;simp only[Sh.hgt] at hh
 go_upto_region 5 with fail
 refine Xr.start [gb] kr ?_;refine Xtk 0 ?_
 iterate 6(refine Xtn ?_)
 refine Xtk 8 ?_
 iterate 8(refine Xtn ?_)
 clear d0 d1 d2 d3;refine Xsp 7 fun w6 hE6 hK6 K hKK=>?_;go_simp;refine(pair_any M w6 (KpP.extOf hK6.kpPs XX4.out hgb) gb k hgb (hb4.ext hE6) om _ _ l a (hl4.out.kp M hb4 hK6.kpPs) (ha4.out.kp M hb4 hK6.kpPs) om (by simp only[Sh.hgt];omega)).mono ?_;rintro e w7 ⟨v1,rfl,k7⟩;refine hKK _ _ (WI_kp k7.kp si) (hK6.kpP k7.kp si) ?_;clear hKK;refine ptm ?_;refine Xsp 17 fun w8 hE8 hK8 K hKK=>?_;go_simp;refine(pair_any M w8 (KpP.extOf hK8.kpPs XX4.out hgb) gb (k+1) hgb (k7.bd.ext hE8) om _ _ b y (hbb4.out.kp M hb4 hK8.kpPs) (hy4.out.kp M hb4 hK8.kpPs) om (by simp only[Sh.hgt];omega)).mono ?_;rintro e w9 ⟨v2,rfl,k9⟩;refine hKK _ _ (WI_kp k9.kp si) (hK8.kpP k9.kp si) ?_;clear hKK;refine ptm ?_;refine Xsp 18 fun w10 hE10 hK10 K hKK=>?_;go_simp;refine(pair_any M w10 (KpP.extOf hK10.kpPs XX4.out hgb) gb (k+1+1) hgb (k9.bd.ext hE10) om _ _ (.nd l a) (.nd b y) (((k7.tr.ext M hE8).kp M (k7.bd.ext hE8) k9.kp).ext M hE10) (k9.tr.ext M hE10) (by simp only[Sh.text,List.length_append];omega) (by simp only[Sh.hgt];omega)).mono ?_;rintro e w11 ⟨v3,rfl,k11⟩;refine hKK _ _ (WI_kp k11.kp si) (hK10.kpP k11.kp si) ?_;clear hKK;refine ptm ?_;refine Xtk 19 ?_;refine Xdn fun w12 hE12 hK12=>?_
 go_wp2_with fail
 go_ret
 exact⟨v3,rfl,k11.tr.ext M hE12,k11.bd.ext hE12,KpP.extThen X4.out hK12.kpPs⟩
end
section
open Go.RowKit Go.Shelf
attribute [local go_sem ↓] Go.wp_at_zero Go.wp_at_succ
attribute [local go_sem] Oper.semAt_some
def segI (ts:List Int)(f t:Int):List Int:=(ts.take t.toNat).drop f.toNat
theorem segI_app (a b:List Int)(f t:Int):segI (a++b) f t=segI a f t++segI b (f-a.length) (t-a.length):=by
 unfold segI;have e1:(t-(a.length:Int)).toNat=t.toNat-a.length:=om;have e2:(f-(a.length:Int)).toNat=f.toNat-a.length:=om;rw[e1,e2,List.take_append,List.drop_append,List.length_take];by_cases h:t.toNat<=a.length
 ·have e3:t.toNat-a.length=0:=om;rw[e3];simp
 ·have e3:min t.toNat a.length=a.length:=om;rw[e3]
theorem segI_none (a:List Int)(f t:Int)(h:(a.length:Int)<=f):segI a f t=[]:=by
 unfold segI;rw[List.drop_eq_nil_iff,List.length_take];omega
theorem segI_zero (a:List Int)(f t:Int)(h:t<=0):segI a f t=[]:=by
 have e:t.toNat=0:=om;unfold segI;rw[e];simp
theorem room_none {F:Fence}(hd:F.depth=none)(k:Nat):F.room k:=fun d h=>by rw[hd] at h;cases h
theorem RoundIn.anyD {F:Fence}(hd:F.depth=none){m m':Nat}{P:Program}{l:Nat}{f:FuncId}{tmps:Array Value}{assign body:Code}{w:World}{R:Ending->World->Prop}
 (h:RoundIn F m P l f tmps assign body w R):RoundIn F m' P l f tmps assign body w R:=⟨h.1,fun c cs _=>h.2 c cs (room_none hd _)⟩
theorem YieldAt.anyD {F:Fence}(hd:F.depth=none){m:Nat}(m':Nat){P:Program}{l:Nat}{args:Array Value}{W:World}{R:Ending->World->Prop}(h:YieldAt F m P l args W R):YieldAt F m' P l args W R:=by
 obtain⟨fn,tmps,assign,body,hy,hR⟩:=h;exact⟨fn,tmps,assign,body,hy,RoundIn.anyD hd hR⟩
def RdY (wB:World)(J Jx:List Int->World->Prop)(xs:List Int)(e:Ending)(w':World):Prop:=
 (e=.returned (.bool true)/\J xs w'/\Ext wB w')\/(e=.returned (.bool false)/\Jx xs w')
def RetWk (wB:World)(J Jx:List Int->World->Prop)(pre xs:List Int)(e:Ending)(w':World):Prop:=
 (e=.returned (.bool true)/\J (pre++xs) w'/\Ext wB w')\/(e=.returned (.bool false)/\∃q,q <+: xs/\Jx (pre++q) w')
def YdOk (wB:World)(l N:Nat)(J Jx:List Int->World->Prop):Prop:=
 ∀pre x W,Ext wB W->J pre W->pre.length<N->∀m,YieldAt Fence.wide m Tryz.prog l #[.int .i64 x] W (RdY wB J Jx (pre++[x]))
theorem walk_leaf {wB:World}{S:World->Nat->List Int->Prop}{ok:Int->Prop}{l N:Nat}{J Jx:List Int->World->Prop}(hY:YdOk wB l N J Jx)(ts:List Int)(v:Value)(h:Tr S ok wB v (.lf ts))(f t:Int)(hf : -3000000<=f/\f<=1000000)(ht : -3000000<=t/\t<=1000000)(pre:List Int)(W:World)(x0:Ext wB W)(hJ:J pre W)(hN:pre.length+(segI ts f t).length<=N) :
 Calls Tryz.prog 154 #[v,.int .i64 f,.int .i64 t,.func (.yield l) #[] #[]] W (RetWk wB J Jx pre (segI ts f t)):=by
 obtain⟨b,A,c,gs,rfl,hb,hi,_,_⟩:=h.at_;have hn:ts.length<=65536:=h.n;have hbW:∀W',Ext wB W'->W'.cell? ⟨b,0,none⟩=some (.slice A ts.length c):=fun W' x=>x.cell (hb.cell 0);have ta:=asLf;have HY:=lh hY;have HI:=lh hi;have HB:=lh hbW;obtain⟨f',hf'⟩:∃f':Nat,f'=f.toNat:=⟨_,rfl⟩;obtain⟨t',ht'⟩:∃t':Nat,t'=min t.toNat ts.length:=⟨_,rfl⟩;have hm1:max f 0=(f':Int):=om;have HSEG:Hid (segI ts f t=(ts.take t').drop f'):=lh (by
  unfold segI;rw[ht',hf',<-List.take_take,List.take_length])
 have c0:=hbW W x0;clear h hb hi hbW hY;unfold lfV;refine(callsIn_wide (n:=5)).1 ?_;refine callsIn_of_wp Tryz.func154 rfl trivial ?_ rfl;simp only[Tryz.ntmps154,List.size_toArray,List.length_cons,List.length_nil,Nat.reduceAdd,Nat.reduceSub,Array.replicate_succ,Array.replicate_zero,List.push_toArray,List.append_toArray,List.nil_append,List.cons_append]
 gi_wp2
 all_goals
  gi_loopw [10] (fun p wr=>∃i:Nat,p=.int .i64 i/\f'<=i/\i<=max f' t'/\Ext wB wr/\J (pre++(ts.take i).drop f') wr) (fun p _=>t'-(intOf p).toNat)
  case atStart=>exact⟨f',by congr 1;omega,Nat.le_refl _,om,x0,by simpa using hJ⟩
  case round=>
   obtain⟨i,rfl,h1,h2,xr,hJr⟩:=hrel;have c1:=HB.out wr xr;by_cases hlt:i<t'
   ·have hlt2:i<ts.length:=om;have hlI:(i:Int)<min t (ts.length:Int):=om;have hseg:(ts.take i).drop f'++[ts[i]]=(ts.take (i+1)).drop f':=by
     rw[List.take_succ_eq_append_getElem hlt2,List.drop_append_of_le_length (by rw[List.length_take];omega)]
    have hpl:(pre++(ts.take i).drop f').length<N:=by
     rw[HSEG.out] at hN;simp only[List.length_append,List.length_drop,List.length_take] at hN ⊢;omega
    obtain⟨ib,io,rfl,hc⟩:=(HI.out.ext xr).get hlt2;obtain⟨fn,tmps,assign,body,hy,hR⟩:=HY.out _ ts[i] wr xr hJr hpl (5-1);rw[List.append_assoc,hseg] at hR;have HR:=lh hR;clear hR hseg hpl hJr;generalize ts[i]=x at *
    gi_wp2
    all_goals
     refine HR.out.mono ?_;rintro e W3 (⟨rfl,hJ3,hk3⟩|⟨rfl,hJx3⟩)
     ·gi_wp2
      go_roundw
      case rel=>exact⟨i+1,by go_num,om,om,hk3,hJ3⟩
      case measure=>simp[intOf];omega
     ·gi_wp2
      go_ret
      refine .inr ⟨rfl,_,?_,hJx3⟩;rw[HSEG.out];have e1:(ts.take (i+1)).drop f' <+: (ts.take t').drop f':=by
       have e2:ts.take (i+1) <+: ts.take t':=List.take_prefix_take_left om;obtain⟨y,hy2⟩:=e2
       rw[<-hy2,List.drop_append_of_le_length (by rw[List.length_take];omega)];exact List.prefix_append _ _
      exact e1
   ·have hlI:min t (ts.length:Int)<=(i:Int)\/t<=0:=om;have hfin:(ts.take i).drop f'=(ts.take t').drop f':=by
     by_cases h3:f'<=t'
     ·have:i=t':=om;rw[this]
     ·rw[List.drop_eq_nil_iff.2 (by rw[List.length_take];omega),List.drop_eq_nil_iff.2 (by rw[List.length_take];omega)]
    rw[hfin,<-HSEG.out] at hJr
    gi_wp2
    all_goals
     go_ret
     exact .inl ⟨rfl,hJr,xr⟩
theorem RIz1 {P:Prop} (h:P:=by
 go_ret
 rw[HSEG.out];exact .inr ⟨by first|rfl|(show Ending.returned (Value.bool (decide (t<=(n:Int))))=_;rw[decide_eq_false om]),sA++q2,(List.prefix_append_right_inj sA).2 hq2,by rw[<-List.append_assoc];exact hx2⟩):P:=h
theorem walk_node {w0 wB:World}{g:Nat}{S:World->Nat->List Int->Prop}{ok:Int->Prop}{l:Nat}{J Jx:List Int->World->Prop}(M:Mo w0 g ok S)(a c:Sh)(v:Value)(h:Tr S ok wB v (.nd a c))(f t:Int)(hf : -3000000<=f/\f<=1000000)(ht : -3000000<=t/\t<=1000000)(pre:List Int)(W:World)(x0:Ext wB W)(hJ:J pre W)
 (HL:∀v',Tr S ok wB v' a->Calls Tryz.prog 154 #[v',.int .i64 f,.int .i64 t,.func (.yield l) #[] #[]] W (RetWk wB J Jx pre (segI a.text f t)))
 (HC:∀v' W',Tr S ok wB v' c->Ext wB W'->J (pre++segI a.text f t) W'->Calls Tryz.prog 154 #[v',.int .i64 (f-a.text.length),.int .i64 (t-a.text.length),.func (.yield l) #[] #[]] W' (RetWk wB J Jx (pre++segI a.text f t) (segI c.text (f-a.text.length) (t-a.text.length)))) :
 Calls Tryz.prog 154 #[v,.int .i64 f,.int .i64 t,.func (.yield l) #[] #[]] W (RetWk wB J Jx pre (segI (Sh.nd a c).text f t)):=by
 obtain⟨b,vl,vr,gs,rfl,hbl,hl,hr⟩:=h.nd;obtain⟨T1,b1,s1,K1,K2,K3,rfl,hm1,hs1⟩:=hl.at_.meth;have HB0:=lh (fun(W':World) (x:Ext wB W')=>x.cell (hbl.cell 0));have HB1:=lh (fun(W':World) (x:Ext wB W')=>x.cell (hbl.cell 1));have n1:=hm1.size.nil_;have n2:=hm1.size.mth;have n3:=hm1.size.ent;have HM1:=lh hm1;have ta:=asIn;have tb:=asInLf;have hln:=hl.n;have HSEG:=lh (segI_app a.text c.text f t);have HS0:=lh (segI_none a.text f t);have HS1:=lh (segI_zero c.text (f-a.text.length) (t-a.text.length));have HLL:=lh (HL _ hl);have HCC:=lh (fun W'=>HC _ W' hr);clear HL HC hm1 hs1 h hl hr hbl;have et:(Sh.nd a c).text=a.text++c.text:=rfl;rw[et];generalize segI (a.text++c.text) f t=sT at *;generalize segI c.text (f-a.text.length) (t-a.text.length)=sC at *;generalize segI a.text f t=sA at *;obtain⟨n,hn⟩:∃n,n=a.text.length:=⟨_,rfl⟩
 rw[<-hn] at hln HS0 HS1 HCC HM1;clear hn et;have c0:=HB0.out W x0;unfold inV;go_enter Tryz.func154,Tryz.ntmps154
 go_upto_region 12 with(go_at_fn K1;refine(HM1.out.size.call _ x0).mono ?_;rintro e wa ⟨rfl,rfl⟩)
 clear n1 n2 n3 HM1;by_cases hfn:f<(n:Int)
 ·by_cases htn:t<=(n:Int)
  ·go_wp2_with (go_at_call 154;refine HLL.out.mono ?_;clear HLL;rintro e W1 (⟨rfl,hJ1,x1⟩|⟨rfl,q,hq,hx1⟩))
   ·go_ret
    have e1:=HS1.out om;rw[HSEG.out,e1,List.append_nil];exact .inl ⟨rfl,hJ1,x1⟩
   ·go_ret
    rw[HSEG.out];exact .inr ⟨rfl,q,hq.trans (List.prefix_append _ _),hx1⟩
  ·go_wp2_with (first|(go_at_call 154;refine HLL.out.mono ?_;clear HLL;rintro e W1 (⟨rfl,hJ1,x1⟩|⟨rfl,q,hq,hx1⟩);(try have c1:W1.cell? ⟨b,1,none⟩=some vr:=HB1.out W1 x1))|(go_at_call 154;refine(HCC.out W1 x1 hJ1).mono ?_;clear HCC;rintro e W2 (⟨rfl,hJ2,x2⟩|⟨rfl,q2,hq2,hx2⟩)))
   ·go_ret
    rw[HSEG.out];exact .inl ⟨rfl,by rw[<-List.append_assoc];exact hJ2,x2⟩
   ·exact RIz1
   ·go_ret
    rw[HSEG.out];exact .inr ⟨rfl,q,hq.trans (List.prefix_append _ _),hx1⟩
 ·have e0:=HS0.out om;have hJ1:J (pre++sA) W:=by rw[e0,List.append_nil];exact hJ
  by_cases htn:t<=(n:Int)
  ·have e1:=HS1.out om
   go_wp2_with fail
   go_ret
   rw[HSEG.out,e1,List.append_nil];exact .inl ⟨rfl,hJ1,x0⟩
  ·have c1:W.cell? ⟨b,1,none⟩=some vr:=HB1.out W x0
   go_wp2_with (go_at_call 154;refine(HCC.out W x0 hJ1).mono ?_;clear HCC;rintro e W2 (⟨rfl,hJ2,x2⟩|⟨rfl,q2,hq2,hx2⟩))
   ·go_ret
    rw[HSEG.out];exact .inl ⟨rfl,by rw[<-List.append_assoc];exact hJ2,x2⟩
   ·exact RIz1
theorem walk_any {w0 wB:World}{g:Nat}{S:World->Nat->List Int->Prop}{ok:Int->Prop}{l N:Nat}{J Jx:List Int->World->Prop}(M:Mo w0 g ok S)(hY:YdOk wB l N J Jx):∀(T:Sh) (v:Value) (_:Tr S ok wB v T) (f t:Int) (_ : -2000000+(T.text.length:Int)<=f/\f<=1000000) (_ : -2000000+(T.text.length:Int)<=t/\t<=1000000) (pre:List Int) (W:World) (_:Ext wB W) (_:J pre W) (_:pre.length+(segI T.text f t).length<=N),
 Calls Tryz.prog 154 #[v,.int .i64 f,.int .i64 t,.func (.yield l) #[] #[]] W (RetWk wB J Jx pre (segI T.text f t))
 | .lf ts,v,h,f,t,hf,ht,pre,W,x0,hJ,hN=>walk_leaf hY ts v h f t om om pre W x0 hJ hN
 | .nd a c,v,h,f,t,hf,ht,pre,W,x0,hJ,hN=>by
  have e1:(Sh.nd a c).text.length=a.text.length+c.text.length:=by simp[Sh.text]
  have e2:(segI (Sh.nd a c).text f t).length=(segI a.text f t).length+(segI c.text (f-a.text.length) (t-a.text.length)).length:=by
   show(segI (a.text++c.text) f t).length=_
   rw[segI_app,List.length_append]
  rw[e1] at hf ht;rw[e2] at hN;exact walk_node M a c v h f t om om pre W x0 hJ
   (fun v' h'=>walk_any M hY a v' h' f t om om pre W x0 hJ om)
   (fun v' W' h' x' hJ'=>walk_any M hY c v' h' _ _ om om _ W' x' hJ' (by rw[List.length_append];omega))
end
end Go.Proofs.YtmpcoifnpflapaaGreat
