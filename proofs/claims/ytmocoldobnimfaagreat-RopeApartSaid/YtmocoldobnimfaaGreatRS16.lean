/- Texts of this proof: R2 RC RD RE RF R3 RI. -/
import Derived.Test.YtmocoldobnimfaaGreatRS12
import Derived.Shelf.Abstract
import Derived.RangeFuncKeeps
import Derived.RangeFuncBound
import Derived.RangeFuncLeaves
import Derived.OwnWalkIn
import Derived.TacticsInMore
import Derived.LoopNIn
import Derived.LoopIn
set_option linter.all false
set_option maxRecDepth 100000
set_option maxHeartbeats 16000000
namespace Go.Proofs.YtmocoldobnimfaaGreat
section
open Go.RowKit
attribute [local go_sem ↓] Go.wp_at_zero Go.wp_at_succ
def RetE (v:Value)(w:World)(e:Ending)(w':World):Prop:=e=.returned v/\w=w'
theorem lfSize_any (w:World)(b:Nat)(A:Option Addr)(n c:Nat)(gs:Value)(hb:Blk w b 238 #[.slice A n c,gs]):Calls Tryz.prog 251 #[.pointer (some ⟨b,0,none⟩)] w (RetE (.int .i64 n) w):=by
 obtain⟨c0,c1,_⟩:=hb.c2;go_enter Tryz.func251,Tryz.ntmps251
 go_wp2
 go_ret
 exact⟨rfl,rfl⟩
theorem lfHeight_any (w:World)(b:Nat):Calls Tryz.prog 250 #[.pointer (some ⟨b,0,none⟩)] w (RetE (.int .i64 1) w):=by
 go_enter Tryz.func250,Tryz.ntmps250
 go_wp2
 go_ret
 exact⟨rfl,rfl⟩
theorem lfSum_any (w:World)(b:Nat)(x gs:Value)(hb:Blk w b 238 #[x,gs]):Calls Tryz.prog 252 #[.pointer (some ⟨b,0,none⟩)] w (RetE gs w):=by
 obtain⟨c0,c1,_⟩:=hb.c2;go_enter Tryz.func252,Tryz.ntmps252
 go_wp2
 go_ret
 exact⟨rfl,rfl⟩
theorem inSize_any (w:World)(b:Nat)(v0 v1 v2 v3 v4:Value)(hb:Blk w b 241 #[v0,v1,v2,v3,v4]):Calls Tryz.prog 254 #[.pointer (some ⟨b,0,none⟩)] w (RetE v2 w):=by
 have c0:w.cell? ⟨b,2,none⟩=some v2:=hb.cell 2;go_enter Tryz.func254,Tryz.ntmps254
 go_wp2
 go_ret
 exact⟨rfl,rfl⟩
theorem inHeight_any (w:World)(b:Nat)(v0 v1 v2 v3 v4:Value)(hb:Blk w b 241 #[v0,v1,v2,v3,v4]):Calls Tryz.prog 253 #[.pointer (some ⟨b,0,none⟩)] w (RetE v3 w):=by
 have c0:w.cell? ⟨b,3,none⟩=some v3:=hb.cell 3;go_enter Tryz.func253,Tryz.ntmps253
 go_wp2
 go_ret
 exact⟨rfl,rfl⟩
theorem inSum_any (w:World)(b:Nat)(v0 v1 v2 v3 v4:Value)(hb:Blk w b 241 #[v0,v1,v2,v3,v4]):Calls Tryz.prog 255 #[.pointer (some ⟨b,0,none⟩)] w (RetE v4 w):=by
 have c0:w.cell? ⟨b,4,none⟩=some v4:=hb.cell 4;go_enter Tryz.func255,Tryz.ntmps255
 go_wp2
 go_ret
 exact⟨rfl,rfl⟩
structure MthOk (T b:Nat)(nm:String)(x:Value)(K:Nat)(w:World):Prop where
 nil_:∀w,(nilAhead 442 T (.pointer (some ⟨b,0,none⟩)) nm).run Tryz.prog w=.ok (some false) w
 mth:∀w,(method 442 T (.pointer (some ⟨b,0,none⟩)) nm).run Tryz.prog w=.ok (K,.pointer (some ⟨b,0,none⟩)) w
 ent:∀(args:Array Value) (w:World),(callFunc K args).run Tryz.prog w=.ok (.enter K args) w
 call:∀w',Ext w w'->Calls Tryz.prog K #[.pointer (some ⟨b,0,none⟩)] w' (RetE x w')
structure NdM (w:World)(T b:Nat)(n h:Nat)(s:Value)(K1 K2 K3:Nat):Prop where
 size : MthOk T b "rexmill/rope.size" (.int .i64 n) K1 w
 height : MthOk T b "rexmill/rope.height" (.int .i64 h) K2 w
 sum : MthOk T b "rexmill/rope.sum" s K3 w
theorem RtAt.meth {S:World->Nat->List Int->Prop}{w:World}:∀{t:Sh} {v:Value},RtAt S w v t->∃T b gs K1 K2 K3,v=.iface T (.pointer (some ⟨b,0,none⟩))/\NdM w T b t.text.length t.hgt (.pointer (some ⟨gs,0,none⟩)) K1 K2 K3/\S w gs t.text
 | .lf ts,v,⟨b,A,c,gs,e,hb,hi,ht,hs⟩=>⟨236,b,gs,251,250,252,e,
  ⟨⟨fun w=>by kernel_rfl,fun w=>by kernel_rfl,Tryz.call251,fun w' x=>lfSize_any w' b A ts.length c _ (hb.ext x)⟩,⟨fun w=>by kernel_rfl,fun w=>by kernel_rfl,Tryz.call250,fun w' x=>lfHeight_any w' b⟩,
   ⟨fun w=>by kernel_rfl,fun w=>by kernel_rfl,Tryz.call252,fun w' x=>lfSum_any w' b _ _ (hb.ext x)⟩⟩,hs⟩
 | .nd l r,v,⟨b,vl,vr,gs,e,hb,h1,h2,hs⟩=>⟨239,b,gs,254,253,255,e,
  ⟨⟨fun w=>by kernel_rfl,fun w=>by kernel_rfl,Tryz.call254,fun w' x=>inSize_any w' b _ _ _ _ _ (hb.ext x)⟩,⟨fun w=>by kernel_rfl,fun w=>by kernel_rfl,Tryz.call253,fun w' x=>inHeight_any w' b _ _ _ _ _ (hb.ext x)⟩,
   ⟨fun w=>by kernel_rfl,fun w=>by kernel_rfl,Tryz.call255,fun w' x=>inSum_any w' b _ _ _ _ _ (hb.ext x)⟩⟩,hs⟩
def BdAt (w:World)(gb g k:Nat):Prop:=Blk w gb 170 #[.pointer (some ⟨g,0,none⟩),.int .i64 k,.int .i64 0]
theorem BdAt.ext {w w':World}{gb g k:Nat}(h:BdAt w gb g k)(x:Ext w w'):BdAt w' gb g k:=Blk.ext h x
theorem KpP.thenExt {p:Nat->Prop}{a b c:World}(h:KpP p a b)(x:Ext b c):KpP p a c:=h.trans (KpP.of_ext x)
theorem KpP.extThen {p:Nat->Prop}{a b c:World}(x:Ext a b)(h:KpP p b c):KpP p a c:=(KpP.of_ext x).trans h
theorem note_any (w:World)(gb g k:Nat)(hb:BdAt w gb g k):Calls Tryz.prog 172 #[.pointer (some ⟨gb,0,none⟩),.int .i64 0] w (fun e w'=>e=.returned (.tuple #[])/\BdAt w' gb g k/\KpP (·=gb) w w'):=by
 have c2:w.cell? ⟨gb,2,none⟩=some (.int .i64 0):=hb.cell 2;have f2:=hb.frz 2;have hl:=hb.lt;have HB:Hid (BdAt (w.setCell ⟨gb,2,none⟩ (.int .i64 0)) gb g k):=lh (by have h:=Blk.set hb 2 (.int .i64 0);exact h);have HK:Hid (KpP (·=gb) w (w.setCell ⟨gb,2,none⟩ (.int .i64 0))):=lh ((KpP.refl (·=gb) w).set (x:=⟨gb,2,none⟩) (.inl rfl) _);clear hb;go_enter Tryz.func172,Tryz.ntmps172
 go_wp2
 generalize w.setCell ⟨gb,2,none⟩ (.int .i64 0)=w1 at *;exact bodyPost_end (v:=.tuple #[]) (by simp[results,Tryz.results172,go_sem]) rfl ⟨rfl,HB.out,HK.out⟩
def RetNdR (S:World->Nat->List Int->Prop)(gb g k:Nat)(t:Sh)(w:World)(e:Ending)(w':World):Prop:=∃v,e=.returned v/\RtAt S w' v t/\BdAt w' gb g k/\KpP (·=gb) w w'
theorem pair_node {w0:World}{g:Nat}{ok:Int->Prop}{S:World->Nat->List Int->Prop}(M:Mo w0 g ok S)(w:World)(x0:Ext w0 w)(gb k:Nat)(hgb:w0.heap.size<=gb)(hb:BdAt w gb g k)(hk:k<=1000000)(vl vr:Value)(l r:Sh)(hl:RtAt S w vl l)(hr:RtAt S w vr r)
 (okl:∀x∈l.text,ok x) (okr:∀x∈r.text,ok x) (hn:l.text.length+r.text.length<=65536) (hh:l.hgt<=1000/\r.hgt<=1000) :
 Calls Tryz.prog 140 #[.pointer (some ⟨gb,0,none⟩),vl,vr] w (RetNdR S gb g (k+1) (.nd l r) w):=by
 obtain⟨T1,b1,s1,K1,K2,K3,rfl,hm1,hs1⟩:=hl.meth;obtain⟨T2,b2,s2,K4,K5,K6,rfl,hm2,hs2⟩:=hr.meth;have c0:w.cell? ⟨gb,0,none⟩=some (.pointer (some ⟨g,0,none⟩)):=hb.cell 0;have HM1:=lh hm1;have HM2:=lh hm2;have HL:=lh hl;have HR:=lh hr;have HJ:=fun(w':World) (x:Ext w w')=>lh (M.join w' (x0.trans x) s1 s2 _ _ (M.ext hs1 x) (M.ext hs2 x) okl okr hn);clear hl hr hs1 hs2;have m1:=hm1.sum.nil_;have m2:=hm1.sum.mth;have m3:=hm1.sum.ent;have m4:=hm2.sum.nil_;have m5:=hm2.sum.mth;have m6:=hm2.sum.ent;clear hm1 hm2;go_enter Tryz.func140,Tryz.ntmps140
 go_upto_region 1 with fail
 have j1:=kc0 c0;refine Xr.start [] kr ?_;refine Xtk 0 ?_
 iterate 4(refine Xtn ?_)
 refine Xtk 6 ?_;refine Xcl 5 fun w1 hE1 hK1 K hKK=>?_;go_simp;refine(HM1.out.sum.call w1 hE1).mono ?_;rintro e w2 ⟨rfl,rfl⟩;have x2:=Ext.rfl' w1;refine hKK _ _ x2 ?_;clear hKK;refine ptm ?_;refine Xcl 7 fun w3 hE3 hK3 K hKK=>?_;go_simp;refine(HM2.out.sum.call w3 ((hE1.trans x2).trans hE3)).mono ?_;rintro e w4 ⟨rfl,rfl⟩;have x4:=Ext.rfl' w3;refine hKK _ _ x4 ?_;clear hKK;refine ptm ?_;refine Xcl 8 fun w5 hE5 hK5 K hKK=>?_;go_simp;refine(HJ w5 ((((hE1.trans x2).trans hE3).trans x4).trans hE5)).out.mono ?_;rintro e w6 ⟨gs,rfl,hs,x6⟩;refine hKK _ _ x6 ?_;clear hKK;refine ptm ?_;refine Xtk 9 ?_
 iterate 4(refine Xtn ?_)
 refine Xdn fun w7 hE7 hK7=>?_;have X7:=(((((hE1.trans x2).trans hE3).trans x4).trans hE5).trans x6).trans hE7;have HB7:=lh (hb.ext X7);have HS7:=lh (M.ext hs hE7);have HX7:=lh X7;clear hE1 x2 hE3 x4 hE5 x6 hE7 hK1 hK3 hK5 hK7 X7 hs hb c0 j1 HJ m1 m2 m3 m4 m5 m6
 go_upto_region 3 with(go_at_call 172;refine(note_any w7 gb g k HB7.out).mono ?_;rintro e w8 ⟨rfl,hb8,hk8⟩)
 have HK8:=lh (KpP.extThen HX7.out hk8);have HQ8:=TyQ.one HB7.out;have HS8:=lh (M.kp HS7.out hk8 HQ8);have HL8:=lh (RtAt.kp M hk8 HQ8 (RtAt.ext M HX7.out HL.out));have HR8:=lh (RtAt.kp M hk8 HQ8 (RtAt.ext M HX7.out HR.out));clear HQ8 hk8 HS7 HX7 HB7 HL HR HM1 HM2;obtain⟨b0,b1',b2',z0,z1,z2,_⟩:=Blk.c3 hb8;have HB9:Hid (BdAt (w8.setCell ⟨gb,1,none⟩ (.int .i64 ((k:Int)+1))) gb g (k+1)):=lh (by have h:=Blk.set hb8 1 (.int .i64 ((k:Int)+1));exact h);have HK9:=lh ((KpP.refl (·=gb) w8).set (x:=⟨gb,1,none⟩) (.inl rfl) (.int .i64 ((k:Int)+1)));have HQ9:=TyQ.one hb8;have HS9:=lh (M.kp HS8.out HK9.out HQ9);have HL9:=lh (RtAt.kp M HK9.out HQ9 HL8.out);have HR9:=lh (RtAt.kp M HK9.out HQ9 HR8.out);have HX9:=lh (HK8.out.trans HK9.out);clear HQ9 HK9 HS8 HL8 HR8 HK8 hb8
 go_upto_region 4 with fail
 generalize w8.setCell ⟨gb,1,none⟩ (.int .i64 ((k:Int)+1))=w9 at *;clear b0 b1' b2' z0 z1 z2;obtain⟨T1',b1'',s1',K1',K2',K3',e1,hm1,_⟩:=HL9.out.meth;obtain⟨T2',b2'',s2',K4',K5',K6',e2,hm2,_⟩:=HR9.out.meth;injection e1 with e1a e1b;injection e1b with e1b;injection e1b with e1b;injection e1b with e1b;subst e1a e1b
 injection e2 with e2a e2b;injection e2b with e2b;injection e2b with e2b;injection e2b with e2b;subst e2a e2b
 have m1:=hm1.size.nil_;have m2:=hm1.size.mth;have m3:=hm1.size.ent;have m4:=hm2.size.nil_;have m5:=hm2.size.mth;have m6:=hm2.size.ent;have n1:=hm1.height.nil_;have n2:=hm1.height.mth;have n3:=hm1.height.ent;have n4:=hm2.height.nil_;have n5:=hm2.height.mth;have n6:=hm2.height.ent;have HM1:=lh hm1;have HM2:=lh hm2;have S0:=lh (Ext.rfl' w9);clear hm1 hm2;obtain⟨a,ha⟩:∃a,a=l.text.length:=⟨_,rfl⟩;obtain⟨b,hb⟩:∃b,b=r.text.length:=⟨_,rfl⟩;obtain⟨p,hp⟩:∃p,p=l.hgt:=⟨_,rfl⟩;obtain⟨q,hq⟩:∃q,q=r.hgt:=⟨_,rfl⟩;have HAB:=lh (And.intro (And.intro ha hb) (And.intro hp hq))
 rw[<-ha,<-hb] at hn
 rw[<-hp,<-hq] at hh
 rw[<-ha,<-hp] at HM1
 rw[<-hb,<-hq] at HM2;clear ha hb hp hq
 go_wp2_with (first|(go_at_fn K1';refine(HM1.out.size.call _ S0.out).mono ?_;rintro e wa ⟨rfl,rfl⟩)|(go_at_fn K2';refine(HM1.out.height.call _ S0.out).mono ?_;rintro e wa ⟨rfl,rfl⟩)|(go_at_fn K4';refine(HM2.out.size.call _ S0.out).mono ?_;rintro e wa ⟨rfl,rfl⟩)|(go_at_fn K5';refine(HM2.out.height.call _ S0.out).mono ?_;rintro e wa ⟨rfl,rfl⟩))
 all_goals
  go_ret
  obtain⟨⟨ha,hb⟩,hp,hq⟩:=HAB.out;have XN:=Ext.alloc w9;refine⟨inV w9.heap.size,rfl,⟨w9.heap.size,_,_,gs,rfl,?_,RtAt.ext M (XN _) HL9.out,RtAt.ext M (XN _) HR9.out,M.ext HS9.out (XN _)⟩,HB9.out.ext (XN _),HX9.out.thenExt (XN _)⟩;have e1:(((l.text++r.text).length:Nat):Int)=(a:Int)+b:=by rw[List.length_append];omega
  have e2:(((Sh.nd l r).hgt:Nat):Int)=(p:Int)+1\/(((Sh.nd l r).hgt:Nat):Int)=(q:Int)+1:=by simp only[Sh.hgt];omega
  have e3:(((Sh.nd l r).hgt:Nat):Int)=((max p q:Nat):Int)+1:=by simp only[Sh.hgt];omega
  rw[e1,e3]
  first
   | (
    have e4:max p q=p:=om;rw[e4];exact Blk.new _ _ _)
   | (
    have e4:max p q=q:=om;rw[e4];exact Blk.new _ _ _)
structure Oq where
 e:Ed
 A:Option Addr
 c:Nat
def flatQ (l:List Oq):List Value:=l.flatMap fun o=>[.int .i64 o.e.at_,.int .i64 o.e.del,.slice o.A o.e.ins.length o.c]
theorem flatQ_append (l m:List Oq):flatQ (l++m)=flatQ l++flatQ m:=by simp[flatQ]
theorem flatQ_len (l:List Oq):(flatQ l).length=l.length*3:=by
 induction l with
 | nil=>rfl
 | cons y l ih=>simp only[flatQ,List.flatMap_cons,List.length_append] at *;simp only[List.length_cons,List.length_nil];omega
theorem flatQ_one (l:List Oq):∀u∈flatQ l,u.oneCell'=true:=by
 intro u hu;obtain⟨o,_,hu⟩:=List.mem_flatMap.1 hu;simp only[List.mem_cons,List.not_mem_nil,or_false] at hu;rcases hu with rfl|rfl|rfl<;>rfl
def EdNum (e:Ed):Prop:=(∀x∈e.ins,0<=x/\x<=200)/\e.ins.length<=80/\-1<=e.at_/\e.at_<=1000000/\0<=e.del/\e.del<=1000000
def OqAt (w:World)(B:Option Addr)(o:Oq):Prop:=IL w o.A o.c o.e.ins/\EdNum o.e/\(o.e.ins≠[]->∀b,o.A.map (·.block)=some b->B.map (·.block)≠some b)
theorem infoEd:(Tryz.prog.info? 102).map (fun i=>(i.zero,i.size,i.bytes))=some (some (.agg #[.int .i64 0,.int .i64 0,.slice none 0 0]),3,40):=by kernel_rfl
def EdB (wr wx:World)(ge:Nat):Prop:=Ext wr wx/\wr.heap.size<=ge/\∃o:Oq,Blk wx ge 102 #[.int .i64 o.e.at_,.int .i64 o.e.del,.slice o.A o.e.ins.length o.c]/\IL wx o.A o.c o.e.ins/\EdNum o.e/\(o.e.ins≠[]->∀b,o.A.map (·.block)=some b->wr.heap.size<=b/\b≠ge)
theorem EdB.num {wr wx:World}{ge:Nat}(h:EdB wr wx ge)(d:Int)(h0:0<=d)(h1:d<=1000000):EdB wr (wx.setCell ⟨ge,1,none⟩ (.int .i64 d)) ge:=by
 obtain⟨x,hge,o,hb,hi,⟨n1,n2,n3,n4,_,_⟩,hn⟩:=h;refine⟨x.setNew (p:=⟨ge,1,none⟩) hge _,hge,⟨⟨o.e.at_,d,o.e.ins⟩,o.A,o.c⟩,by simpa using hb.set 1 (.int .i64 d),?_,⟨n1,n2,n3,n4,h0,h1⟩,hn⟩;by_cases h:o.e.ins=[]
 ·have:=IL.nil (wx.setCell ⟨ge,1,none⟩ (.int .i64 d));simp only;rw[h] at hi ⊢;exact⟨hi.le,hi.cap,hi.rng,fun h=>absurd rfl h⟩
 ·exact hi.set (p:=⟨ge,1,none⟩) (fun e=>(hn h _ e).2 rfl) _
theorem EdB.at0 {wr wx:World}{ge:Nat}(h:EdB wr wx ge)(a:Int)(h0 : -1<=a)(h1:a<=1000000):EdB wr (wx.setCell ⟨ge,0,none⟩ (.int .i64 a)) ge:=by
 obtain⟨x,hge,o,hb,hi,⟨n1,n2,_,_,n3,n4⟩,hn⟩:=h;refine⟨x.setNew (p:=⟨ge,0,none⟩) hge _,hge,⟨⟨a,o.e.del,o.e.ins⟩,o.A,o.c⟩,by simpa using hb.set 0 (.int .i64 a),?_,⟨n1,n2,h0,h1,n3,n4⟩,hn⟩;by_cases h:o.e.ins=[]
 ·simp only;rw[h] at hi ⊢;exact⟨hi.le,hi.cap,hi.rng,fun h=>absurd rfl h⟩
 ·exact hi.set (p:=⟨ge,0,none⟩) (fun e=>(hn h _ e).2 rfl) _
theorem EdB.ins {wr wx wy:World}{ge:Nat}(h:EdB wr wx ge)(k:Ext wx wy){A:Option Addr}{c:Nat}{l:List Int}(hl:IL wy A c l)(hr:∀x∈l,0<=x/\x<=200)(hn:l.length<=80)(hf:Fr wx A):EdB wr (wy.setCell ⟨ge,2,none⟩ (.slice A l.length c)) ge:=by
 obtain⟨x,hge,o,hb,hi,⟨_,_,n1,n2,n3,n4⟩,_⟩:=h;have hlt:=hb.lt;have hA:∀b,A.map (·.block)=some b->wr.heap.size<=b/\b≠ge:=fun b e=>by have:=hf b e;have:=x.size;exact⟨om,om⟩
 refine⟨(x.trans k).setNew (p:=⟨ge,2,none⟩) hge _,hge,⟨⟨o.e.at_,o.e.del,l⟩,A,c⟩,by simpa using(hb.ext k).set 2 (.slice A l.length c),?_,⟨hr,hn,n1,n2,n3,n4⟩,fun _ b e=>hA b e⟩;exact hl.set (p:=⟨ge,2,none⟩) (fun e=>(hA _ e).2 rfl) _
theorem EdB.ext {wr wx wy:World}{ge:Nat}(h:EdB wr wx ge)(k:Ext wx wy):EdB wr wy ge:=by
 obtain⟨x,hge,o,hb,hi,n,hn⟩:=h;exact⟨x.trans k,hge,o,hb.ext k,hi.ext k,n,hn⟩
def RetEs (w:World)(most:Nat)(e:Ending)(w':World):Prop:=∃(A:Option Addr) (c:Nat) (es:List Oq),e=.returned (.slice A es.length c)/\es.length<=most/\OwnS w' w.heap.size 102 3 A es.length c (flatQ es)/\(∀o∈es,IL w' o.A o.c o.e.ins/\EdNum o.e)/\Ext w w'
structure EsI (w wr:World)(most:Nat)(T:Option Addr)(tc:Nat)(ts:List Int)(A:Option Addr)(c:Nat)(es:List Oq):Prop where
 il:IL wr T tc ts
 tl:ts.length<=65536
 tn:ts≠[]->∀b,T.map (·.block)=some b->A.map (·.block)≠some b
 own:OwnS wr w.heap.size 102 3 A es.length c (flatQ es)
 at_:∀o∈es,OqAt wr A o
 el:es.length<=most
 x:Ext w wr
theorem EsI.ext {w wr wx:World}{most tc oc:Nat}{T O:Option Addr}{ts:List Int}{es:List Oq}(h:EsI w wr most T tc ts O oc es)(x:Ext wr wx):EsI w wx most T tc ts O oc es:=
 ⟨h.il.ext x,h.tl,h.tn,OwnS.ext h.own x,fun o ho=>⟨(h.at_ o ho).1.ext x,(h.at_ o ho).2.1,(h.at_ o ho).2.2⟩,h.el,h.x.trans x⟩
theorem EsI.setT {w wr wx:World}{most tc oc tc':Nat}{T O T':Option Addr}{ts ts':List Int}{es:List Oq}(h:EsI w wr most T tc ts O oc es)(x:Ext wr wx)(hi:IL wx T' tc' ts')(hf:Fr wr T')(hl:ts'.length<=65536):EsI w wx most T' tc' ts' O oc es:=by
 have h':=h.ext x;refine⟨hi,hl,fun _ b hb e=>?_,h'.own,h'.at_,h'.el,h'.x⟩;have h1:=hf b hb;have h2:=(OwnS.blt h.own e).1;omega
theorem EsI.push {w wr wc w6:World}{most tc oc c2:Nat}{T O A2:Option Addr}{ts:List Int}{es:List Oq}(h:EsI w wr most T tc ts O oc es)(x:Ext wr wc)(o:Oq)(hi:IL wc o.A o.c o.e.ins)(hn:EdNum o.e)(hf:o.e.ins≠[]->∀b,o.A.map (·.block)=some b->wr.heap.size<=b)(he:es.length<most)
 (hg:wc.grownBy w6 (O.map (·.block))) (hat:A2.map (·.block)=O.map (·.block)\/A2.map (·.block)=some wc.heap.size) (ho:OwnS w6 w.heap.size 102 3 A2 (es++[o]).length c2 (flatQ (es++[o]))):EsI w w6 most T tc ts A2 c2 (es++[o]):=by
 have hc:=h.ext x;have hO:∀b,O.map (·.block)=some b->b<wr.heap.size:=fun b hb=>(OwnS.blt h.own hb).1;have ap:∀{B:Option Addr} {c:Nat} {l:List Int},IL wc B c l->(l≠[]->∀b,B.map (·.block)=some b->O.map (·.block)≠some b)->IL w6 B c l/\(l≠[]->∀b,B.map (·.block)=some b->A2.map (·.block)≠some b):=fun{B c l} hB hap=>by
  refine⟨hB.kp (KpP.of_grown hg) (fun h0 b hb hp=>hap h0 b hb hp),fun h0 b hb e=>?_⟩;rcases hat with h1|h1
  ·exact hap h0 b hb (h1▸e)
  ·rw[h1] at e;injection e with e
   have:=hB.blt h0 hb;omega
 refine⟨(ap hc.il hc.tn).1,h.tl,(ap hc.il hc.tn).2,ho,fun q hq=>?_,by simp;omega,hc.x.grown hg (OwnS.row h.own)⟩;rcases List.mem_append.1 hq with hq|hq
 ·obtain⟨a1,a2,a3⟩:=hc.at_ q hq;exact⟨(ap a1 a3).1,a2,(ap a1 a3).2⟩
 ·rw[List.mem_singleton.1 hq];have:=ap hi (fun h0 b hb e=>by have h1:=hf h0 b hb;have h2:=hO b e;omega);exact⟨this.1,hn,this.2⟩
theorem EdB.x {wr wx:World}{ge:Nat}(h:EdB wr wx ge):Ext wr wx:=h.1
theorem RFz1 {P:Prop} (h:P:=by
 go_wp2_with fail
 go_ret
 exact⟨O,oc,es,rfl,HI.out.el,HI.out.own,fun o ho=>⟨(HI.out.at_ o ho).1,(HI.out.at_ o ho).2.1⟩,HI.out.x⟩):P:=h
theorem eEdits_any (w:World)(T:Option Addr)(tc:Nat)(ts:List Int)(hT:IL w T tc ts)(htl:ts.length<=65536)(A:Option Addr)(c:Nat)(l:List Int)(hl:IL w A c l)(most:Nat)(hm:most<=1000):Calls Tryz.prog 49 #[.slice T ts.length tc,.slice A l.length c,.int .i64 most] w (RetEs w most):=by
 have hll:=hl.len;have HRND:=fun(n:Int) (W:World) (hn:I64 n)=>lh (around_any n 1048576 W hn om om);have htn:ts≠[]->∀b,T.map (·.block)=some b->(none:Option Addr).map (·.block)≠some b:=fun _ b _ e=>by cases e
 go_enter Tryz.func49,Tryz.ntmps49
 go_wp2
 go_loopw [0,7,8] (fun t o i wr=>∃(j:Nat) (T:Option Addr) (tc:Nat) (ts:List Int) (O:Option Addr) (oc:Nat) (es:List Oq),(j<=l.length+1/\j<=2*es.length)/\i=.int .i64 j/\t=.slice T ts.length tc/\o=.slice O es.length oc/\EsI w wr most T tc ts O oc es) (fun _ _ i _=>l.length+2-(intOf i).toNat)
 case atStart=>exact⟨0,T,tc,ts,none,0,[],⟨om,om⟩,rfl,rfl,rfl,hT,htl,htn,OwnS.nil _ _ _ _,fun o ho=>absurd ho si,Nat.zero_le _,Ext.rfl' _⟩
 case round=>
  clear hT htl htn T tc ts;obtain⟨j,T,tc,ts,O,oc,es,⟨hj,hj2⟩,rfl,rfl,rfl,hI⟩:=hrel;have hj3:j<=2000:=by have:=hI.el;omega
  have HI:=lh hI;have htl:=hI.tl;clear hI;by_cases hlt:j+1<l.length
  ·by_cases hes:es.length<most
   ·have HLX:=lh (hl.ext HI.out.x);obtain⟨pb,po,rfl,g1⟩:=HLX.out.get (show j<l.length by omega);obtain⟨pb2,po2,e2,g2⟩:=HLX.out.get (show j+1<l.length by omega);injection e2 with e2
    injection e2 with e2 e3 _
    subst e2 e3;have r1:=HLX.out.rng l[j] (List.getElem_mem _);have r2:=HLX.out.rng l[j+1] (List.getElem_mem _);have b1:=around_bd l[j] 1048576 om;have b2:=around_bd l[j+1] 1048576 om;have H1:=fun W=>HRND l[j] W r1;have H2:=fun W=>HRND l[j+1] W r2;obtain⟨n,hn,hn1⟩:∃n:Nat,n<1048576/\around l[j] 1048576=(n:Int):=⟨(around l[j] 1048576).toNat,om,om⟩;obtain⟨m,hm2,hm1⟩:∃n:Nat,n<1048576/\around l[j+1] 1048576=(n:Int):=⟨(around l[j+1] 1048576).toNat,om,om⟩;rw[hn1] at H1;rw[hm1] at H2;clear hn1 hm1 b1 b2 r1 r2 HRND;generalize l[j]=x1 at *;generalize l[j+1]=x2 at *
    go_upto_region 6 with(go_at_call 17;refine(H1 _).out.mono ?_;rintro e w1 h1;obtain⟨rfl,hx1⟩:=h1.v;have HX1:=lh hx1;clear hx1 h1)
    replace g2:=HX1.out.cell g2
    go_upto_region 8 with(go_at_call 17;refine(H2 _).out.mono ?_;rintro e w2 h1;obtain⟨rfl,hx1⟩:=h1.v;have HX2:=lh (HX1.out.trans hx1);clear hx1 h1)
    have hat:(n:Int) % ((ts.length:Int)+1)=((n % (ts.length+1):Nat):Int):=by push_cast;rfl
    have ham:n % (ts.length+1)<=ts.length:=by have:=Nat.mod_lt n (show 0<ts.length+1 by omega);omega
    rw[hat];clear hat;generalize n % (ts.length+1)=a at *
    go_upto_region 9 with fail
    obtain⟨dl,hdl⟩:∃d:Int,d=(if(m:Int) % 7<(ts.length:Int)-(a:Int) then(m:Int) % 7 else(ts.length:Int)-(a:Int)):=⟨_,rfl⟩
    rw[<-hdl];have hdl1:0<=dl/\dl<=1000000:=by rw[hdl];split<;>omega
    have HDL:=lh hdl1;clear hdl hdl1;have HAA:=lh (show(-1:Int)<=(a:Int)/\(a:Int)<=1000000 by omega);have HB0:Hid (EdB wr (w2.alloc (.cells #[.int .i64 a,.int .i64 dl,.slice none 0 0] 102)) w2.heap.size):=lh ⟨HX2.out.trans (Ext.alloc _ _),HX2.out.size,⟨⟨a,dl,[]⟩,none,0⟩,Blk.new _ _ _,IL.nil _,⟨by simp,by simp,HAA.out.1,HAA.out.2,HDL.out.1,HDL.out.2⟩,fun h=>absurd rfl h⟩;obtain⟨ge,hge⟩:∃g,g=w2.heap.size:=⟨_,rfl⟩
    rw[<-hge] at HB0 ⊢;clear hge HDL;generalize w2.alloc (.cells #[.int .i64 a,.int .i64 dl,.slice none 0 0] 102)=w3 at *;clear HX2 HX1 g1 g2 H1 H2
    go_upto_if 53 with fail
    go_cut [12] from 51 to 62 (fun v wx=>v=.pointer (some ⟨ge,0,none⟩)/\Hid (EdB wr wx ge))
    case first=>
     obtain⟨_,_,o0,hb0,_⟩:=HB0.out;obtain⟨p0,p1,p2,q0,q1,q2,pz⟩:=hb0.c3;have hnn:((n:Int).tdiv 16:Int)=((n / 16:Nat):Int):=by rw[Int.tdiv_eq_ediv_of_nonneg om];push_cast;rfl
     by_cases h5:(m:Int) % 5=0
     ·clear HI HLX HAA
      go_wp2_with fail
      all_goals(go_meet;exact⟨rfl,lh (HB0.out.num _ om om)⟩)
     ·clear HI HLX HAA
      go_wp2_with fail
      go_meet
      exact⟨rfl,HB0⟩
    case rest=>
     obtain⟨rfl,HB1⟩:=hcut;clear HB0 w3 w2 w1
     go_upto_if 65 with fail
     go_cut [12] from 63 to 73 (fun v wx=>v=.pointer (some ⟨ge,0,none⟩)/\Hid (EdB wr wx ge))
     case first=>
      obtain⟨_,_,o0,hb0,_⟩:=HB1.out;obtain⟨p0,p1,p2,q0,q1,q2,pz⟩:=hb0.c3;have HRT:∀W,Ext wr W->Hid (Calls Tryz.prog 25 #[.slice (some ⟨pb,po+j,none⟩) (l.length-j) (c-j),.int .i64 ((m:Int) / 3 % 6)] W (RetIL (rtext (l.drop j) (m / 3 % 6)) W)):=fun W hW=>lh (by
       have h:=rText_any _ _ (l.drop j) (m / 3 % 6) W ((HLX.out.ext hW).dropN (k:=j) om) om;have e1:dropI (some ⟨pb,po,none⟩) c j=some ⟨pb,po+j,none⟩:=by unfold dropI;rw[if_neg om];simp[Addr.add]
       rw[e1,List.length_drop] at h;have e2:((m / 3 % 6:Nat):Int)=(m:Int) / 3 % 6:=by push_cast;rfl
       rw[e2] at h;exact h)
      by_cases h5:0<(m:Int) % 3
      ·clear HI HLX HAA
       go_wp2_with (go_at_call 25;refine(HRT _ (EdB.x HB1.out)).out.mono ?_;rintro e w4 ⟨B,d,rfl,hB,x4,hf⟩;have HXB:=lh x4;have HBB:=lh hB;have HFB:=lh hf;have p0':=x4.cell p0;have p1':=x4.cell p1;have p2':=x4.cell p2;have q2':=(hb0.ext x4).frz 2;clear x4 hB hf)
       go_meet
       exact⟨rfl,lh (EdB.ins HB1.out HXB.out HBB.out (fun x hx=>rtext_bd _ _ x hx) (by have:=rtext_len (l.drop j) (m / 3 % 6);omega) HFB.out)⟩
      ·clear HI HLX HAA
       go_wp2_with fail
       go_meet
       exact⟨rfl,HB1⟩
     case rest=>
      obtain⟨rfl,HB2⟩:=hcut;clear HB1
      go_upto_if 76 with fail
      go_cut [12] from 74 to 84 (fun v wx=>v=.pointer (some ⟨ge,0,none⟩)/\Hid (EdB wr wx ge))
      case first=>
       obtain⟨xw,_,o0,hb0,_⟩:=HB2.out;have hgl:=hb0.lt;have HR1:∀W,Ext wr W->Hid (Calls Tryz.prog 25 #[.slice (some ⟨pb,po,none⟩) l.length c,.int .i64 40] W (RetOI (rtext l 40) W)):=fun W hW=>lh (rTextO_any _ _ l 40 W (HLX.out.ext hW) om);have HR2:∀W,Ext wr W->Hid (Calls Tryz.prog 25 #[.slice (some ⟨pb,po+j,none⟩) (l.length-j) (c-j),.int .i64 40] W (RetIL (rtext (l.drop j) 40) W)):=fun W hW=>lh (by
        have h:=rText_any _ _ (l.drop j) 40 W ((HLX.out.ext hW).dropN (k:=j) om) om;have e1:dropI (some ⟨pb,po,none⟩) c j=some ⟨pb,po+j,none⟩:=by unfold dropI;rw[if_neg om];simp[Addr.add]
        rw[e1,List.length_drop] at h;exact h)
       have p1:=rtext_len l 40;have p2:=rtext_len (l.drop j) 40;have p3:=rtext_bd l 40;have p4:=rtext_bd (l.drop j) 40;generalize rtext l 40=p at *;generalize rtext (l.drop j) 40=q at *;obtain⟨i0,hi0,hz0,hz1,hz2⟩:=info_parts infoInt;have HL:=lh (show p.length+q.length=(p++q).length by simp);have HC:=lh (show p.map (Value.int .i64)++q.map (Value.int .i64)=(p++q).map (Value.int .i64) by simp);have H63:=lh (show p.length+q.length<=maxLen by unfold maxLen;omega);have H8:=lh (show(p.length+q.length)*8<=140737488355328 by omega);have HPQ:=lh (show(∀x∈p++q,0<=x/\x<=200)/\(p++q).length<=80 from⟨fun x hx=>(List.mem_append.1 hx).elim (p3 x) (p4 x),by simp;omega⟩);have hql:(q.map (Value.int .i64)).length=q.length*1:=by simp
       clear p1 p2 p3 p4;by_cases h5:(m:Int) % 11=4
       ·clear HI HLX HAA
        go_upto_region 14 with fail
        refine Xr.start [ge] kr ?_;have hjl:j<=l.length:=om;have hcj:¬c=j:=om;refine Xtk 0 ?_;refine Xtk 2 ?_
        iterate 2(refine Xtn ?_)
        refine Xcl 1 fun w4 hE4 hK4 K hKK=>?_;go_simp;refine(HR1 w4 (xw.trans hE4)).out.mono ?_;rintro e w5 ⟨B,d,rfl,hB,hBr,x5⟩;refine hKK _ _ x5 ?_;clear hKK;refine ptm ?_;refine Xcl 5 fun w6 hE6 hK6 K hKK=>?_;go_simp;refine(HR2 w6 (xw.trans (hE4.trans (x5.trans hE6)))).out.mono ?_;rintro e w7 ⟨D,dc,rfl,hD,x7,_⟩;refine hKK _ _ x7 ?_;clear hKK;refine ptm ?_;refine Xsp 6 fun w8 hE8 hK8 K hKK=>?_;have y8:=hE6.trans (x7.trans hE8);refine wp_app w8 _ _ _ rfl w4.heap.size 3 i0 (.int .i64 0) 1 8 Tryz.underlying22 hi0 hz0 hz1 hz2 rfl om B p.length d (p.map (Value.int .i64)) rfl (OwnS.ext hB y8) D q.length dc (q.map (Value.int .i64)) rfl hql (hD.ext hE8).cells (ints_one q) H63.out H8.out (x5.trans y8).size ?_;intro A9 c9 w9 ho9 hg9 hat9;rw[HL.out];rw[HC.out,HL.out] at ho9;have hrow:=OwnS.row (OwnS.ext hB y8);refine hKK _ _ (WI_grown hg9 (fun i hi=>.inr ⟨(w4.heap.size,w5.heap.size),by simp,hrow i hi,(OwnS.blt hB hi).1⟩)) (hK8.grownL hg9 (fun i hi=>.inr (Nat.le_trans hE4.size (hrow i hi)))) ?_;clear hKK;refine ptm ?_;refine Xtk 7 ?_;have X9:=(hE4.trans (x5.trans y8)).grown hg9 (fun k hk=>Nat.le_trans hE4.size (hrow k hk));refine Xsp 8 fun w10 hE10 hK10 K hKK=>?_;have X10:=X9.trans hE10;have cg10:=(hb0.ext X10).cell 2;have fg10:=(hb0.ext X10).frz 2;go_simp;refine hKK _ _ (WI_setL (WI_refl _ _ _) List.mem_cons_self _ _) (hK10.setL List.mem_cons_self _ _) ?_;clear hKK;refine ptm ?_;refine Xdn fun w11 hE11 hK11=>?_;rw[HL.out] at hE11;have HFIN:=lh ((EdB.ins HB2.out X10 (IL.of_own (OwnS.ext ho9 hE10) (fun x hx=>I64_of (by have:=HPQ.out.1 x hx;omega))) HPQ.out.1 HPQ.out.2 (fun b hb=>Nat.le_trans hE4.size (OwnS.row ho9 b hb))).ext hE11)
        clear hE4 hK4 hB hBr x5 hE6 hK6 hD x7 hE8 hK8 y8 ho9 hg9 hat9 hrow X9 hE10 hK10 X10 cg10 fg10 hE11 hK11
        go_wp2_with fail
        go_meet
        exact⟨rfl,HFIN⟩
       ·clear HI HLX HAA
        go_wp2_with fail
        go_meet
        exact⟨rfl,HB2⟩
      case rest=>
       obtain⟨rfl,HB3⟩:=hcut;clear HB2
       go_upto_if 87 with fail
       go_cut [12] from 85 to 93 (fun v wx=>v=.pointer (some ⟨ge,0,none⟩)/\Hid (EdB wr wx ge))
       case first=>
        obtain⟨_,_,o0,hb0,_⟩:=HB3.out;obtain⟨p0,p1,p2,q0,q1,q2,pz⟩:=hb0.c3;by_cases h5:(m:Int) % 29=7
        ·clear HI HLX HAA
         go_wp2_with fail
         go_meet
         exact⟨rfl,lh (HB3.out.num _ om om)⟩
        ·clear HI HLX HAA
         go_wp2_with fail
         go_meet
         exact⟨rfl,HB3⟩
       case rest=>
        obtain⟨rfl,HB4⟩:=hcut;clear HB3
        go_upto_if 96 with fail
        go_cut [12] from 94 to 97 (fun v wx=>v=.pointer (some ⟨ge,0,none⟩)/\Hid (EdB wr wx ge))
        case first=>
         obtain⟨_,_,o0,hb0,_⟩:=HB4.out;obtain⟨p0,p1,p2,q0,q1,q2,pz⟩:=hb0.c3;by_cases h5:(m:Int) % 31=9
         ·clear HI HLX HAA
          go_wp2_with fail
          go_meet
          exact⟨rfl,lh (HB4.out.at0 _ om om)⟩
         ·clear HI HLX HAA
          go_wp2_with fail
          go_meet
          exact⟨rfl,HB4⟩
        case rest=>
         obtain⟨rfl,HB5⟩:=hcut;clear HB4;obtain⟨X5,hge5,o5,hb5,hi5,hn5,hf5⟩:=HB5.out;obtain⟨z0,z1,z2,_,_,_,pz⟩:=hb5.c3;have Y5:=Ext.alloc wc (.cells #[.int .i64 o5.e.at_,.int .i64 o5.e.del,.slice o5.A o5.e.ins.length o5.c] 102);have K5:=Blk.new wc 102 #[.int .i64 o5.e.at_,.int .i64 o5.e.del,.slice o5.A o5.e.ins.length o5.c];have hcl:CellsAt (wc.alloc (.cells #[.int .i64 o5.e.at_,.int .i64 o5.e.del,.slice o5.A o5.e.ins.length o5.c] 102)) (some ⟨wc.heap.size,0,none⟩) (flatQ [o5]):=blk_cells K5;have HOWN:=lh (OwnS.ext HI.out.own (X5.trans Y5));have HBASE:=lh (HI.out.x.trans (X5.trans Y5)).size;have HIP:=lh (fun(A2:Option Addr) (c2:Nat) (w6:World) (h1:_) (h2:_) (h3:_)=>EsI.push (A2:=A2) (c2:=c2) (w6:=w6) HI.out (X5.trans Y5) o5 (hi5.ext Y5) hn5 (fun h0 b hb=>(hf5 h0 b hb).1) hes h1 h2 h3);obtain⟨i0,hi0,hz0,hz1,hz2⟩:=info_parts infoEd;have h63:es.length+1<=maxLen:=by unfold maxLen;omega
         have h8:(es.length+1)*40<=140737488355328:=om;have HQ1:=flatQ_one [o5];have HB5':=lh (hb5.ext Y5);have HI5:=lh (hi5.ext Y5);have HN5:=lh hn5;clear hn5 hi5 hf5 HAA
         go_upto_region 20 with(at_builtin;refine wpList_app _ rfl _ _ _ rfl w.heap.size 102 i0 (.agg #[.int .i64 0,.int .i64 0,.slice none 0 0]) 3 40 Tryz.underlying98 hi0 hz0 hz1 hz2 rfl om O es.length oc (flatQ es) rfl HOWN.out (some ⟨wc.heap.size,0,none⟩) 1 1 (flatQ [o5]) rfl rfl hcl HQ1 h63 h8 HBASE.out ?_;intro A2 c2 w6 ho hg hat)
         have hos:(es++[o5]).length=es.length+1:=by simp
         have HI6:=lh (HIP.out A2 c2 w6 hg hat (by rw[hos,flatQ_append];exact ho));have hgo:¬(O.map (·.block)=some ge):=fun e=>by have:=(OwnS.blt HI.out.own e).1;omega
         have hb6:=(KpP.of_grown hg).blk HB5'.out hgo;obtain⟨hi6,hn6,_⟩:=HI6.out.at_ o5 si;obtain⟨y0,y1,y2,_,_,_,py⟩:=hb6.c3;obtain⟨_,n2,n3,n4,n5,n6⟩:=hn6;have hld:=hi6.len;have HCK:=lh (rCheck_any T ts.length tc o5.e.at_ o5.e.del o5.A o5.c o5.e.ins w6 hi6 om om (by unfold I64;omega));have HSP:editErr ts.length o5.e.at_ o5.e.del o5.e.ins=0->∀W,Ext w6 W->Hid (Calls Tryz.prog 56 #[.slice T ts.length tc,.agg #[.int .i64 o5.e.at_,.int .i64 o5.e.del,.slice o5.A o5.e.ins.length o5.c]] W (RetIL (spliceL ts o5.e.at_ o5.e.del o5.e.ins) W)):=fun he W hW=>by
          obtain⟨e1,e2,e3,_,_⟩:=editErr_ok he;exact lh (rSplice_any T tc ts o5.e.at_ o5.e.del o5.A o5.c o5.e.ins W (HI6.out.il.ext hW) (hi6.ext hW) om om e1 e2 om)
         have HSL:editErr ts.length o5.e.at_ o5.e.del o5.e.ins=0->(spliceL ts o5.e.at_ o5.e.del o5.e.ins).length<=65536:=fun he=>by
          obtain⟨e1,e2,e3,_,e5⟩:=editErr_ok he;simp only[spliceL,List.length_append,List.length_take,List.length_drop];omega
         clear HIP ho hg hat HOWN HBASE HB5' HI5 HN5 hcl K5 Y5 X5 HB5 hgo hb6 hb5 hi6 n2 n3 n4 n5 n6 hld hos HQ1 h63 h8 z0 z1 z2 HI HLX;obtain⟨es2,hes2⟩:∃e,e=es++[o5]:=⟨_,rfl⟩
         rw[<-hes2] at HI6;have hlen2:es2.length=es.length+1:=by rw[hes2];simp
         have HL2:=lh hlen2;clear hlen2 hes2;obtain⟨err,herr⟩:∃e,e=editErr ts.length o5.e.at_ o5.e.del o5.e.ins:=⟨_,rfl⟩
         rw[<-herr] at HCK HSP HSL;clear herr
         go_upto_if 105 with(go_at_call 53;refine HCK.out.mono ?_;rintro e w7 ⟨rfl,x7⟩;have HX7:=lh x7;replace y0:=x7.cell y0;replace y1:=x7.cell y1;replace y2:=x7.cell y2;clear x7)
         by_cases he:err=0
         ·have HSP':=HSP he;have hsl:=HSL he;clear HSP HSL;generalize spliceL ts o5.e.at_ o5.e.del o5.e.ins=ts2 at *
          go_wp2_with (go_at_call 56;refine(HSP' _ HX7.out).out.mono ?_;rintro e w8 ⟨T2,tc2,rfl,ht2,x8,hf8⟩;have HI8:=lh ((HI6.out.ext HX7.out).setT x8 ht2 hf8 hsl);clear ht2 x8 hf8)
          go_roundw
          case rel=>exact⟨j+2,T2,tc2,ts2,A2,c2,es2,⟨om,by have:=HL2.out;omega⟩,by go_num,rfl,by rw[HL2.out],HI8.out⟩
          case measure=>simp[intOf];omega
         ·clear HSP HSL
          go_wp2_with fail
          go_roundw
          case rel=>exact⟨j+2,T,tc,ts,A2,c2,es2,⟨om,by have:=HL2.out;omega⟩,by go_num,rfl,by rw[HL2.out],HI6.out.ext HX7.out⟩
          case measure=>simp[intOf];omega
   ·have hle:(most:Int)<=es.length:=om;exact RFz1
  ·have hle2:((l.length:Nat):Int)<=(j:Int)+1:=om;exact RFz1
theorem Kp.kpPs {gb:Nat}{a b:World}(h:Kp [gb] a b):KpP (·=gb) a b:=KpP.kp h (fun i hi=>by simpa using hi)
theorem KpP.kps {gb:Nat}{a b:World}(h:KpP (·=gb) a b):Kp [gb] a b:=⟨h.os,h.tape,h.output,h.size,fun k hk hn=>h.block k hk (fun e=>hn (by simp[e]))⟩
theorem KpP.extOf {gb:Nat}{e a b:World}(h:KpP (·=gb) a b)(x:Ext e a)(hg:e.heap.size<=gb):Ext e b:=Ext.kp x h (fun i hi=>by subst hi;exact hg)
section
variable {w0:World} {g:Nat} {ok:Int->Prop} {S:World->Nat->List Int->Prop}
structure Tr (S:World->Nat->List Int->Prop)(ok:Int->Prop)(w:World)(v:Value)(t:Sh):Prop where
 at_:RtAt S w v t
 ok_:∀x∈t.text,ok x
 h:t.hgt<=1000
 n:t.text.length<=65536
theorem Tr.kp (M:Mo w0 g ok S){w w':World}{v:Value}{t:Sh}{gb k:Nat}(h:Tr S ok w v t)(hb:BdAt w gb g k)(kk:KpP (·=gb) w w'):Tr S ok w' v t:=⟨RtAt.kp M kk (TyQ.one hb) h.at_,h.ok_,h.h,h.n⟩
theorem Tr.ext (M:Mo w0 g ok S){w w':World}{v:Value}{t:Sh}(h:Tr S ok w v t)(x:Ext w w'):Tr S ok w' v t:=⟨RtAt.ext M x h.at_,h.ok_,h.h,h.n⟩
structure TrB (S:World->Nat->List Int->Prop)(ok:Int->Prop)(gb g k:Nat)(t:Sh)(w w':World)(v:Value):Prop where
 tr:Tr S ok w' v t
 bd:BdAt w' gb g k
 kp:KpP (·=gb) w w'
def RetTr (S:World->Nat->List Int->Prop)(ok:Int->Prop)(gb g k:Nat)(t:Sh)(w:World)(e:Ending)(w':World):Prop:=∃v,e=.returned v/\TrB S ok gb g k t w w' v
theorem pair_any (M:Mo w0 g ok S)(w:World)(x0:Ext w0 w)(gb k:Nat)(hgb:w0.heap.size<=gb)(hb:BdAt w gb g k)(hk:k<=1000000)(vl vr:Value)(l r:Sh)(hl:Tr S ok w vl l)(hr:Tr S ok w vr r)
 (hn:l.text.length+r.text.length<=65536) (hh:(Sh.nd l r).hgt<=1000) :
 Calls Tryz.prog 140 #[.pointer (some ⟨gb,0,none⟩),vl,vr] w (RetTr S ok gb g (k+1) (.nd l r) w):=by
 refine(pair_node M w x0 gb k hgb hb hk vl vr l r hl.at_ hr.at_ hl.ok_ hr.ok_ hn ⟨hl.h,hr.h⟩).mono ?_;rintro e w' ⟨v,rfl,h1,h2,h3⟩;refine⟨v,rfl,⟨h1,fun x hx=>?_,hh,by simpa[Sh.text] using hn⟩,h2,h3⟩;rcases List.mem_append.1 hx with hx|hx
 ·exact hl.ok_ x hx
 ·exact hr.ok_ x hx
theorem Tr.nd {w:World}{v:Value}{l r:Sh}(h:Tr S ok w v (.nd l r)):∃(b:Nat) (vl vr:Value) (gs:Nat),v=inV b/\Blk w b 241 #[vl,vr,.int .i64 (l.text++r.text).length,.int .i64 (Sh.nd l r).hgt,.pointer (some ⟨gs,0,none⟩)]/\Tr S ok w vl l/\Tr S ok w vr r:=by
 obtain⟨b,vl,vr,gs,e,hb,h1,h2,hs⟩:=h.at_;have e1:l.hgt<=1000/\r.hgt<=1000:=by have:=h.h;simp only[Sh.hgt] at this;omega
 have e2:l.text.length<=65536/\r.text.length<=65536:=by have:=h.n;simp only[Sh.text,List.length_append] at this;omega
 exact⟨b,vl,vr,gs,e,hb,⟨h1,fun x hx=>h.ok_ x (List.mem_append_left _ hx),e1.1,e2.1⟩,⟨h2,fun x hx=>h.ok_ x (List.mem_append_right _ hx),e1.2,e2.2⟩⟩
theorem Tr.as {w:World}{T b:Nat}{t:Sh}(h:Tr S ok w (.iface T (.pointer (some ⟨b,0,none⟩))) t):(∃l r,t=.nd l r/\T=239)\/(∃ts,t=.lf ts/\T=236):=by
 cases t with
 | lf ts=>obtain⟨b',A,c,gs,e,_⟩:=h.at_;cases e;exact .inr ⟨ts,rfl,rfl⟩
 | nd l r=>obtain⟨b',vl,vr,gs,e,_⟩:=h.at_;cases e;exact .inl ⟨l,r,rfl,rfl⟩
end
theorem Blk.neT {w:World}{a b T T':Nat}{cs cs':Array Value}(h:Blk w a T cs)(k:Blk w b T' cs')(hT:T≠T'):a≠b:=fun e=>by
 subst e;have h1:some (Obj.cells cs T (0,0))=some (.cells cs' T' (0,0)):=Eq.trans (Eq.symm h) k;injection h1 with h1
 injection h1 with _ h1
 exact hT h1
theorem asIn (w:World)(p:Value):(Instr.typeAssert (.iface 239 p) 173 239 true).run Tryz.prog w=.ok (.tuple #[p,.bool true]) w:=by kernel_rfl
theorem asLfIn (w:World)(p:Value):(Instr.typeAssert (.iface 236 p) 173 239 true).run Tryz.prog w=.ok (.tuple #[.pointer none,.bool false]) w:=by kernel_rfl
theorem asLf (w:World)(p:Value):(Instr.typeAssert (.iface 236 p) 173 236 true).run Tryz.prog w=.ok (.tuple #[p,.bool true]) w:=by kernel_rfl
theorem asInLf (w:World)(p:Value):(Instr.typeAssert (.iface 239 p) 173 236 true).run Tryz.prog w=.ok (.tuple #[.pointer none,.bool false]) w:=by kernel_rfl
theorem asNil (w:World):(Instr.typeAssert .nilIface 173 239 true).run Tryz.prog w=.ok (.tuple #[.pointer none,.bool false]) w/\(Instr.typeAssert .nilIface 173 236 true).run Tryz.prog w=.ok (.tuple #[.pointer none,.bool false]) w:=⟨by kernel_rfl,by kernel_rfl⟩
theorem bal5 {w0:World}{g:Nat}{ok:Int->Prop}{S:World->Nat->List Int->Prop}(M:Mo w0 g ok S)(w:World)(x0:Ext w0 w)(gb k:Nat)(hgb:w0.heap.size<=gb)(hb:BdAt w gb g k)(hk:k<=900000)(vl vr:Value)(l a b y:Sh)(hl:Tr S ok w vl l)(hr:Tr S ok w vr (.nd (.nd a b) y))
 (hn:l.text.length+(Sh.nd (.nd a b) y).text.length<=65536) (h1:l.hgt+1<(Sh.nd (.nd a b) y).hgt) (h2:y.hgt<(Sh.nd a b).hgt) (hh:(Sh.nd (.nd l a) (.nd b y)).hgt<=1000) :
 Calls Tryz.prog 139 #[.pointer (some ⟨gb,0,none⟩),vl,vr] w (RetTr S ok gb g (k+3) (.nd (.nd l a) (.nd b y)) w):=by
 obtain⟨b2,vx,vy,gs,rfl,hbr,hx,hy⟩:=hr.nd;obtain⟨bx,va,vb,gs',rfl,hbx,ha,hbb⟩:=hx.nd;obtain⟨T1,b1,s1,K1,K2,K3,rfl,hm1,hs1⟩:=hl.at_.meth;obtain⟨_,_,s2,K4,K5,K6,e2,hm2,hs2⟩:=hr.at_.meth;obtain⟨_,_,s3,K7,K8,K9,e3,hm3,hs3⟩:=hx.at_.meth;obtain⟨Ty,by_,s4,Ka,Kb,Kc,rfl,hm4,hs4⟩:=hy.at_.meth;cases e2
 cases e3
 have n1:=hm1.height.nil_;have n2:=hm1.height.mth;have n3:=hm1.height.ent;have n4:=hm2.height.nil_;have n5:=hm2.height.mth;have n6:=hm2.height.ent;have n7:=hm3.height.nil_;have n8:=hm3.height.mth;have n9:=hm3.height.ent;have na:=hm4.height.nil_;have nb:=hm4.height.mth;have nc:=hm4.height.ent;have HM1:=lh hm1;have HM2:=lh hm2;have HM3:=lh hm3;have HM4:=lh hm4;have c0:w.cell? ⟨b2,0,none⟩=some (inV bx):=hbr.cell 0;have c1:w.cell? ⟨b2,1,none⟩=some (.iface Ty (.pointer (some ⟨by_,0,none⟩))):=hbr.cell 1;have c2:w.cell? ⟨bx,0,none⟩=some va:=hbx.cell 0;have c3:w.cell? ⟨bx,1,none⟩=some vb:=hbx.cell 1;unfold inV at c0;have h1I:((Sh.nd (.nd a b) y).hgt:Int)>(l.hgt:Int)+1:=om;have h2I:((Sh.nd a b).hgt:Int)>(y.hgt:Int):=om;clear hm1 hm2 hm3 hm4;unfold inV;have ta:=asIn;have S0:=Ext.rfl' w;have hlh:=hl.h;have hrh:=hr.h;go_enter Tryz.func139,Tryz.ntmps139
 go_upto_region 4 with(first|(go_at_fn K5;refine(HM2.out.height.call _ S0).mono ?_;rintro e wa ⟨rfl,rfl⟩)|(go_at_fn K2;refine(HM1.out.height.call _ S0).mono ?_;rintro e wa ⟨rfl,rfl⟩))
 have j0:=kc0 c0;have j1:=kc0 c1;refine Xr.start [] kr ?_;refine Xtk 0 ?_;refine Xtn ?_
 iterate 4(first|refine Xtn ?_|refine Xsn ?_)
 first|refine Xtk 7 ?_|refine Xsk 7 ?_
 iterate 3(first|refine Xtn ?_|refine Xsn ?_)
 refine Xcl 6 fun w1 hE1 hK1 K hKK=>?_;go_simp;refine(HM3.out.height.call w1 hE1).mono ?_;rintro e w2 ⟨rfl,rfl⟩;refine hKK _ _ (Ext.rfl' _) ?_;clear hKK;refine ptm ?_;refine Xcl 11 fun w3 hE3 hK3 K hKK=>?_;go_simp;refine(HM4.out.height.call w3 (hE1.trans hE3)).mono ?_;rintro e w2 ⟨rfl,rfl⟩;refine hKK _ _ (Ext.rfl' _) ?_;clear hKK;refine ptm ?_
 first|refine Xtk 12 ?_|refine Xsk 12 ?_
 refine Xtn ?_;refine Xdn fun w4 hE4 hK4=>?_;have X4:=lh hK4.nil;have hb4:=hb.ext X4.out;have hl4:=lh (hl.ext M X4.out);have ha4:=lh (ha.ext M X4.out);have hbb4:=lh (hbb.ext M X4.out);have hy4:=lh (hy.ext M X4.out);have d0:=fun(w':World) (h:Kp [gb] w4 w')=>h.cell (X4.out.cell c0) (by simpa using Blk.neT hbr hb de);have d1:=fun(w':World) (h:Kp [gb] w4 w')=>h.cell (X4.out.cell c1) (by simpa using Blk.neT hbr hb de);have d2:=fun(w':World) (h:Kp [gb] w4 w')=>h.cell (X4.out.cell c2) (by simpa using Blk.neT hbx hb de);have d3:=fun(w':World) (h:Kp [gb] w4 w')=>h.cell (X4.out.cell c3) (by simpa using Blk.neT hbx hb de);have XX4:=lh (x0.trans X4.out);clear hE1 hK1 hE3 hK3 hE4 hK4 c0 c1 c2 c3 j0 j1 n1 n2 n3 n4 n5 n6 n7 n8 n9 na nb nc HM1 HM2 HM3 HM4 hl hr hx hy ha hbb hbr hbx hs1 hs2 hs3 hs4 hb S0;simp only[Sh.text,List.length_append] at hn;simp only[Sh.hgt] at hh
 go_upto_region 5 with fail
 refine Xr.start [gb] kr ?_;refine Xtk 0 ?_
 iterate 6(refine Xtn ?_)
 refine Xtk 8 ?_
 iterate 8(refine Xtn ?_)
 clear d0 d1 d2 d3;refine Xsp 7 fun w6 hE6 hK6 K hKK=>?_;go_simp;refine(pair_any M w6 (KpP.extOf hK6.kpPs XX4.out hgb) gb k hgb (hb4.ext hE6) om _ _ l a (hl4.out.kp M hb4 hK6.kpPs) (ha4.out.kp M hb4 hK6.kpPs) om (by simp only[Sh.hgt];omega)).mono ?_;rintro e w7 ⟨v1,rfl,k7⟩;refine hKK _ _ (WI_kp k7.kp si) (hK6.kpP k7.kp si) ?_;clear hKK;refine ptm ?_;refine Xsp 17 fun w8 hE8 hK8 K hKK=>?_;go_simp;refine(pair_any M w8 (KpP.extOf hK8.kpPs XX4.out hgb) gb (k+1) hgb (k7.bd.ext hE8) om _ _ b y (hbb4.out.kp M hb4 hK8.kpPs) (hy4.out.kp M hb4 hK8.kpPs) om (by simp only[Sh.hgt];omega)).mono ?_;rintro e w9 ⟨v2,rfl,k9⟩;refine hKK _ _ (WI_kp k9.kp si) (hK8.kpP k9.kp si) ?_;clear hKK;refine ptm ?_;refine Xsp 18 fun w10 hE10 hK10 K hKK=>?_;go_simp;refine(pair_any M w10 (KpP.extOf hK10.kpPs XX4.out hgb) gb (k+1+1) hgb (k9.bd.ext hE10) om _ _ (.nd l a) (.nd b y) (((k7.tr.ext M hE8).kp M (k7.bd.ext hE8) k9.kp).ext M hE10) (k9.tr.ext M hE10) (by simp only[Sh.text,List.length_append];omega) (by simp only[Sh.hgt];omega)).mono ?_;rintro e w11 ⟨v3,rfl,k11⟩;refine hKK _ _ (WI_kp k11.kp si) (hK10.kpP k11.kp si) ?_;clear hKK;refine ptm ?_;refine Xtk 19 ?_;refine Xdn fun w12 hE12 hK12=>?_
 go_wp2_with fail
 go_ret
 exact⟨v3,rfl,k11.tr.ext M hE12,k11.bd.ext hE12,KpP.extThen X4.out hK12.kpPs⟩
end
section
open Go.RowKit Go.Shelf
attribute [local go_sem ↓] Go.wp_at_zero Go.wp_at_succ
attribute [local go_sem] Oper.semAt_some
def segI (ts:List Int)(f t:Int):List Int:=(ts.take t.toNat).drop f.toNat
theorem segI_app (a b:List Int)(f t:Int):segI (a++b) f t=segI a f t++segI b (f-a.length) (t-a.length):=by
 unfold segI;have e1:(t-(a.length:Int)).toNat=t.toNat-a.length:=om;have e2:(f-(a.length:Int)).toNat=f.toNat-a.length:=om;rw[e1,e2,List.take_append,List.drop_append,List.length_take];by_cases h:t.toNat<=a.length
 ·have e3:t.toNat-a.length=0:=om;rw[e3];simp
 ·have e3:min t.toNat a.length=a.length:=om;rw[e3]
theorem segI_none (a:List Int)(f t:Int)(h:(a.length:Int)<=f):segI a f t=[]:=by
 unfold segI;rw[List.drop_eq_nil_iff,List.length_take];omega
theorem segI_zero (a:List Int)(f t:Int)(h:t<=0):segI a f t=[]:=by
 have e:t.toNat=0:=om;unfold segI;rw[e];simp
theorem room_none {F:Fence}(hd:F.depth=none)(k:Nat):F.room k:=fun d h=>by rw[hd] at h;cases h
theorem RoundIn.anyD {F:Fence}(hd:F.depth=none){m m':Nat}{P:Program}{l:Nat}{f:FuncId}{tmps:Array Value}{assign body:Code}{w:World}{R:Ending->World->Prop}
 (h:RoundIn F m P l f tmps assign body w R):RoundIn F m' P l f tmps assign body w R:=⟨h.1,fun c cs _=>h.2 c cs (room_none hd _)⟩
theorem YieldAt.anyD {F:Fence}(hd:F.depth=none){m:Nat}(m':Nat){P:Program}{l:Nat}{args:Array Value}{W:World}{R:Ending->World->Prop}(h:YieldAt F m P l args W R):YieldAt F m' P l args W R:=by
 obtain⟨fn,tmps,assign,body,hy,hR⟩:=h;exact⟨fn,tmps,assign,body,hy,RoundIn.anyD hd hR⟩
def RdY (wB:World)(J Jx:List Int->World->Prop)(xs:List Int)(e:Ending)(w':World):Prop:=
 (e=.returned (.bool true)/\J xs w'/\Ext wB w')\/(e=.returned (.bool false)/\Jx xs w')
def RetWk (wB:World)(J Jx:List Int->World->Prop)(pre xs:List Int)(e:Ending)(w':World):Prop:=
 (e=.returned (.bool true)/\J (pre++xs) w'/\Ext wB w')\/(e=.returned (.bool false)/\∃q,q <+: xs/\Jx (pre++q) w')
def YdOk (wB:World)(l N:Nat)(J Jx:List Int->World->Prop):Prop:=
 ∀pre x W,Ext wB W->J pre W->pre.length<N->∀m,YieldAt Fence.wide m Tryz.prog l #[.int .i64 x] W (RdY wB J Jx (pre++[x]))
theorem walk_leaf {wB:World}{S:World->Nat->List Int->Prop}{ok:Int->Prop}{l N:Nat}{J Jx:List Int->World->Prop}(hY:YdOk wB l N J Jx)(ts:List Int)(v:Value)(h:Tr S ok wB v (.lf ts))(f t:Int)(hf : -3000000<=f/\f<=1000000)(ht : -3000000<=t/\t<=1000000)(pre:List Int)(W:World)(x0:Ext wB W)(hJ:J pre W)(hN:pre.length+(segI ts f t).length<=N) :
 Calls Tryz.prog 143 #[v,.int .i64 f,.int .i64 t,.func (.yield l) #[] #[]] W (RetWk wB J Jx pre (segI ts f t)):=by
 obtain⟨b,A,c,gs,rfl,hb,hi,_,_⟩:=h.at_;have hn:ts.length<=65536:=h.n;have hbW:∀W',Ext wB W'->W'.cell? ⟨b,0,none⟩=some (.slice A ts.length c):=fun W' x=>x.cell (hb.cell 0);have ta:=asLf;have HY:=lh hY;have HI:=lh hi;have HB:=lh hbW;obtain⟨f',hf'⟩:∃f':Nat,f'=f.toNat:=⟨_,rfl⟩;obtain⟨t',ht'⟩:∃t':Nat,t'=min t.toNat ts.length:=⟨_,rfl⟩;have hm1:max f 0=(f':Int):=om;have HSEG:Hid (segI ts f t=(ts.take t').drop f'):=lh (by
  unfold segI;rw[ht',hf',<-List.take_take,List.take_length])
 have c0:=hbW W x0;clear h hb hi hbW hY;unfold lfV;refine(callsIn_wide (n:=5)).1 ?_;refine callsIn_of_wp Tryz.func143 rfl trivial ?_ rfl;simp only[Tryz.ntmps143,List.size_toArray,List.length_cons,List.length_nil,Nat.reduceAdd,Nat.reduceSub,Array.replicate_succ,Array.replicate_zero,List.push_toArray,List.append_toArray,List.nil_append,List.cons_append]
 gi_wp2
 all_goals
  gi_loopw [10] (fun p wr=>∃i:Nat,p=.int .i64 i/\f'<=i/\i<=max f' t'/\Ext wB wr/\J (pre++(ts.take i).drop f') wr) (fun p _=>t'-(intOf p).toNat)
  case atStart=>exact⟨f',by congr 1;omega,Nat.le_refl _,om,x0,by simpa using hJ⟩
  case round=>
   obtain⟨i,rfl,h1,h2,xr,hJr⟩:=hrel;have c1:=HB.out wr xr;by_cases hlt:i<t'
   ·have hlt2:i<ts.length:=om;have hlI:(i:Int)<min t (ts.length:Int):=om;have hseg:(ts.take i).drop f'++[ts[i]]=(ts.take (i+1)).drop f':=by
     rw[List.take_succ_eq_append_getElem hlt2,List.drop_append_of_le_length (by rw[List.length_take];omega)]
    have hpl:(pre++(ts.take i).drop f').length<N:=by
     rw[HSEG.out] at hN;simp only[List.length_append,List.length_drop,List.length_take] at hN ⊢;omega
    obtain⟨ib,io,rfl,hc⟩:=(HI.out.ext xr).get hlt2;obtain⟨fn,tmps,assign,body,hy,hR⟩:=HY.out _ ts[i] wr xr hJr hpl (5-1);rw[List.append_assoc,hseg] at hR;have HR:=lh hR;clear hR hseg hpl hJr;generalize ts[i]=x at *
    gi_wp2
    all_goals
     refine HR.out.mono ?_;rintro e W3 (⟨rfl,hJ3,hk3⟩|⟨rfl,hJx3⟩)
     ·gi_wp2
      go_roundw
      case rel=>exact⟨i+1,by go_num,om,om,hk3,hJ3⟩
      case measure=>simp[intOf];omega
     ·gi_wp2
      go_ret
      refine .inr ⟨rfl,_,?_,hJx3⟩;rw[HSEG.out];have e1:(ts.take (i+1)).drop f' <+: (ts.take t').drop f':=by
       have e2:ts.take (i+1) <+: ts.take t':=List.take_prefix_take_left om;obtain⟨y,hy2⟩:=e2
       rw[<-hy2,List.drop_append_of_le_length (by rw[List.length_take];omega)];exact List.prefix_append _ _
      exact e1
   ·have hlI:min t (ts.length:Int)<=(i:Int)\/t<=0:=om;have hfin:(ts.take i).drop f'=(ts.take t').drop f':=by
     by_cases h3:f'<=t'
     ·have:i=t':=om;rw[this]
     ·rw[List.drop_eq_nil_iff.2 (by rw[List.length_take];omega),List.drop_eq_nil_iff.2 (by rw[List.length_take];omega)]
    rw[hfin,<-HSEG.out] at hJr
    gi_wp2
    all_goals
     go_ret
     exact .inl ⟨rfl,hJr,xr⟩
theorem RIz1 {P:Prop} (h:P:=by
 go_ret
 rw[HSEG.out];exact .inr ⟨by first|rfl|(show Ending.returned (Value.bool (decide (t<=(n:Int))))=_;rw[decide_eq_false om]),sA++q2,(List.prefix_append_right_inj sA).2 hq2,by rw[<-List.append_assoc];exact hx2⟩):P:=h
theorem walk_node {w0 wB:World}{g:Nat}{S:World->Nat->List Int->Prop}{ok:Int->Prop}{l:Nat}{J Jx:List Int->World->Prop}(M:Mo w0 g ok S)(a c:Sh)(v:Value)(h:Tr S ok wB v (.nd a c))(f t:Int)(hf : -3000000<=f/\f<=1000000)(ht : -3000000<=t/\t<=1000000)(pre:List Int)(W:World)(x0:Ext wB W)(hJ:J pre W)
 (HL:∀v',Tr S ok wB v' a->Calls Tryz.prog 143 #[v',.int .i64 f,.int .i64 t,.func (.yield l) #[] #[]] W (RetWk wB J Jx pre (segI a.text f t)))
 (HC:∀v' W',Tr S ok wB v' c->Ext wB W'->J (pre++segI a.text f t) W'->Calls Tryz.prog 143 #[v',.int .i64 (f-a.text.length),.int .i64 (t-a.text.length),.func (.yield l) #[] #[]] W' (RetWk wB J Jx (pre++segI a.text f t) (segI c.text (f-a.text.length) (t-a.text.length)))) :
 Calls Tryz.prog 143 #[v,.int .i64 f,.int .i64 t,.func (.yield l) #[] #[]] W (RetWk wB J Jx pre (segI (Sh.nd a c).text f t)):=by
 obtain⟨b,vl,vr,gs,rfl,hbl,hl,hr⟩:=h.nd;obtain⟨T1,b1,s1,K1,K2,K3,rfl,hm1,hs1⟩:=hl.at_.meth;have HB0:=lh (fun(W':World) (x:Ext wB W')=>x.cell (hbl.cell 0));have HB1:=lh (fun(W':World) (x:Ext wB W')=>x.cell (hbl.cell 1));have n1:=hm1.size.nil_;have n2:=hm1.size.mth;have n3:=hm1.size.ent;have HM1:=lh hm1;have ta:=asIn;have tb:=asInLf;have hln:=hl.n;have HSEG:=lh (segI_app a.text c.text f t);have HS0:=lh (segI_none a.text f t);have HS1:=lh (segI_zero c.text (f-a.text.length) (t-a.text.length));have HLL:=lh (HL _ hl);have HCC:=lh (fun W'=>HC _ W' hr);clear HL HC hm1 hs1 h hl hr hbl;have et:(Sh.nd a c).text=a.text++c.text:=rfl;rw[et];generalize segI (a.text++c.text) f t=sT at *;generalize segI c.text (f-a.text.length) (t-a.text.length)=sC at *;generalize segI a.text f t=sA at *;obtain⟨n,hn⟩:∃n,n=a.text.length:=⟨_,rfl⟩
 rw[<-hn] at hln HS0 HS1 HCC HM1;clear hn et;have c0:=HB0.out W x0;unfold inV;go_enter Tryz.func143,Tryz.ntmps143
 go_upto_region 12 with(go_at_fn K1;refine(HM1.out.size.call _ x0).mono ?_;rintro e wa ⟨rfl,rfl⟩)
 clear n1 n2 n3 HM1;by_cases hfn:f<(n:Int)
 ·by_cases htn:t<=(n:Int)
  ·go_wp2_with (go_at_call 143;refine HLL.out.mono ?_;clear HLL;rintro e W1 (⟨rfl,hJ1,x1⟩|⟨rfl,q,hq,hx1⟩))
   ·go_ret
    have e1:=HS1.out om;rw[HSEG.out,e1,List.append_nil];exact .inl ⟨rfl,hJ1,x1⟩
   ·go_ret
    rw[HSEG.out];exact .inr ⟨rfl,q,hq.trans (List.prefix_append _ _),hx1⟩
  ·go_wp2_with (first|(go_at_call 143;refine HLL.out.mono ?_;clear HLL;rintro e W1 (⟨rfl,hJ1,x1⟩|⟨rfl,q,hq,hx1⟩);(try have c1:W1.cell? ⟨b,1,none⟩=some vr:=HB1.out W1 x1))|(go_at_call 143;refine(HCC.out W1 x1 hJ1).mono ?_;clear HCC;rintro e W2 (⟨rfl,hJ2,x2⟩|⟨rfl,q2,hq2,hx2⟩)))
   ·go_ret
    rw[HSEG.out];exact .inl ⟨rfl,by rw[<-List.append_assoc];exact hJ2,x2⟩
   ·exact RIz1
   ·go_ret
    rw[HSEG.out];exact .inr ⟨rfl,q,hq.trans (List.prefix_append _ _),hx1⟩
 ·have e0:=HS0.out om;have hJ1:J (pre++sA) W:=by rw[e0,List.append_nil];exact hJ
  by_cases htn:t<=(n:Int)
  ·have e1:=HS1.out om
   go_wp2_with fail
   go_ret
   rw[HSEG.out,e1,List.append_nil];exact .inl ⟨rfl,hJ1,x0⟩
  ·have c1:W.cell? ⟨b,1,none⟩=some vr:=HB1.out W x0
   go_wp2_with (go_at_call 143;refine(HCC.out W x0 hJ1).mono ?_;clear HCC;rintro e W2 (⟨rfl,hJ2,x2⟩|⟨rfl,q2,hq2,hx2⟩))
   ·go_ret
    rw[HSEG.out];exact .inl ⟨rfl,by rw[<-List.append_assoc];exact hJ2,x2⟩
   ·exact RIz1
theorem walk_any {w0 wB:World}{g:Nat}{S:World->Nat->List Int->Prop}{ok:Int->Prop}{l N:Nat}{J Jx:List Int->World->Prop}(M:Mo w0 g ok S)(hY:YdOk wB l N J Jx):∀(T:Sh) (v:Value) (_:Tr S ok wB v T) (f t:Int) (_ : -2000000+(T.text.length:Int)<=f/\f<=1000000) (_ : -2000000+(T.text.length:Int)<=t/\t<=1000000) (pre:List Int) (W:World) (_:Ext wB W) (_:J pre W) (_:pre.length+(segI T.text f t).length<=N),
 Calls Tryz.prog 143 #[v,.int .i64 f,.int .i64 t,.func (.yield l) #[] #[]] W (RetWk wB J Jx pre (segI T.text f t))
 | .lf ts,v,h,f,t,hf,ht,pre,W,x0,hJ,hN=>walk_leaf hY ts v h f t om om pre W x0 hJ hN
 | .nd a c,v,h,f,t,hf,ht,pre,W,x0,hJ,hN=>by
  have e1:(Sh.nd a c).text.length=a.text.length+c.text.length:=by simp[Sh.text]
  have e2:(segI (Sh.nd a c).text f t).length=(segI a.text f t).length+(segI c.text (f-a.text.length) (t-a.text.length)).length:=by
   show(segI (a.text++c.text) f t).length=_
   rw[segI_app,List.length_append]
  rw[e1] at hf ht;rw[e2] at hN;exact walk_node M a c v h f t om om pre W x0 hJ
   (fun v' h'=>walk_any M hY a v' h' f t om om pre W x0 hJ om)
   (fun v' W' h' x' hJ'=>walk_any M hY c v' h' _ _ om om _ W' x' hJ' (by rw[List.length_append];omega))
end
end Go.Proofs.YtmocoldobnimfaaGreat
