/- Texts of this proof: Y22. -/
import Derived.Test.YtmocoldobnimfaaGreatRP35
import Derived.Test.YtmocoldobnimfaaGreatRP44
set_option linter.all false
set_option maxRecDepth 100000
set_option maxHeartbeats 16000000
namespace Go.Proofs.YtmocoldobnimfaaGreat
section
open Go.RowKit
attribute [local go_sem ↓] Go.wp_at_zero Go.wp_at_succ
theorem eqNum (a b c d e f:Int)(w:World):(Op.equalIn 10000 264 (.agg #[.int .i64 a,.int .i64 b,.int .i64 c]) (.agg #[.int .i64 d,.int .i64 e,.int .i64 f])).run Tryz.prog w=.ok (a == d&&b == e&&c == f) w:=by
 have u3:=Tryz.underlying3;have hS:Tryz.prog.underlying 264=some (.struct (Tryz.prog.fieldsOf 264)):=by kernel_rfl
 have hp:Tryz.prog.stoodInHeld 264=false:=by kernel_rfl
 rw[show(10000:Nat)=9999+1 from rfl,run_equalIn_agg w 9999 264 _ _ hS hp];simp only[Program.fieldsOf,Tryz.underlying264];go_simp;by_cases h1:a=d<;>by_cases h2:b=e<;>by_cases h3:c=f<;>simp[h1,h2,h3]
theorem eqNumT (a b c d e f:Int)(h:a=d∧b=e∧c=f):(a == d&&b == e&&c == f)=true:=by simp[h]
theorem eqNumF (a b c d e f:Int)(h:¬(a=d∧b=e∧c=f)):(a == d&&b == e&&c == f)=false:=by
 rw[Bool.eq_false_iff];intro hh;simp at hh;exact h ⟨hh.1.1,hh.1.2,hh.2⟩
theorem Y22z2 {P:Prop} (h:P:=by
 go_enter Tryz.func154,Tryz.ntmps154
 go_wp2_with fail
 go_ret
 exact⟨rfl,Ext.rfl' _⟩):P:=h
theorem target_any (w:World)(bx:Nat)(gA:Option Addr)(n gc:Nat)(hcap:n≤gc∧gc≤9223372036854775807)(hb:w.cell? ⟨bx,0,none⟩=some (.slice gA n gc))(x:Int) :
 Calls Tryz.prog 154 #[.int .i64 x,.pointer (some ⟨bx,0,none⟩)] w (RetV (.bool (decide (0≤x∧x<n))) w):=by
 by_cases h0:0≤x
 ·by_cases h1:x<n
  ·rw[decide_eq_true ⟨h0,h1⟩];exact Y22z2
  ·rw[decide_eq_false (fun h=>h1 h.2)];exact Y22z2
 ·rw[decide_eq_false (fun h=>h0 h.1)];exact Y22z2
theorem egTarget:∀args w,(callFunc 154 args).run Tryz.prog w=.ok (.enter 154 args) w:=enters_of Tryz.func154 kr rfl
theorem Y22z1 {P:Prop} (h:P:=by
 have j0:=kc0 k0;have j1:=kc0 k1;have j2:=kc0 k2;have j3:=kc0 k3;have j4:=kc0 k4;have ju0:=kc0 u0;have ju1:=kc0 u1;have ju2:=kc0 u2
 go_upto_region 24 with fail
 refine Xr.start [] kr ?_;refine Xtk 0 ?_;refine Xtn ?_
 iterate 13(first|refine Xtn ?_|refine Xsn ?_)
 iterate 2(refine Xtn ?_)
 iterate 15(first|refine Xtn ?_|refine Xsn ?_)
 iterate 2(refine Xtn ?_)
 refine Xdn fun w9 hE9 hK9=>?_;clear j0 j1 j2 j3 j4 ju0 ju1 ju2
 go_wp2_with fail
 go_ret
 exact⟨by rw[←HRES.out];rfl,X1.trans hE9⟩):P:=h
theorem pv0_any (gA:Option Addr)(n gc:Nat)(hn:n≤gc∧gc≤9223372036854775807)(runes:Bool)(caps:Int)(hcaps:0≤caps∧caps≤9)(zx zy zn:Int)(A:Option Addr)(c:Nat)(zl:List Sp)(w:World)(hL:SL w A c zl)(pb q:Nat)
 (c0:w.cell? ⟨pb,q,none⟩=some (.int .i64 0)) (c1:w.cell? ⟨pb,q+1,none⟩=some (.int .i64 zx)) (c2:w.cell? ⟨pb,q+2,none⟩=some (.int .i64 zy)) (c3:w.cell? ⟨pb,q+3,none⟩=some (.int .i64 zn)) (c4:w.cell? ⟨pb,q+4,none⟩=some (.slice A zl.length c)) :
 Calls Tryz.prog 113 #[.agg #[.slice gA n gc,.int .i64 caps,.bool runes],.pointer (some ⟨pb,q,none⟩)] w (RetV (.bool (okB runes caps n ⟨0,zx,zy,zn,zl⟩)) w):=by
 have hlen:=hL.len;have BG0:=Blk.new w 48 #[.slice gA n gc,.int .i64 caps,.bool runes];have EG0:=Ext.alloc w (.cells #[.slice gA n gc,.int .i64 caps,.bool runes] 48);have BU:=Blk.new (w.alloc (.cells #[.slice gA n gc,.int .i64 caps,.bool runes] 48)) 264 #[.int .i64 0,.int .i64 0,.int .i64 0];have EU:=Ext.alloc (w.alloc (.cells #[.slice gA n gc,.int .i64 caps,.bool runes] 48)) (.cells #[.int .i64 0,.int .i64 0,.int .i64 0] 264);have BG:=BG0.ext EU;have X1:=EG0.trans EU;rw[World.size_alloc] at BU;obtain⟨res,hres⟩:∃res,Hid (okB runes caps n ⟨0,zx,zy,zn,zl⟩=res):=⟨_,lh rfl⟩;rw[hres.out];have eg:=egTarget;have HQ:=fun(a b c d e f:Int) (W:World)=>eqNum a b c d e f W;go_enter Tryz.func113,Tryz.ntmps113
 go_upto_region 4 with fail
 obtain⟨gx,hgx⟩:∃gx,gx=w.heap.size:=⟨_,rfl⟩
 rw[←hgx] at BG BU ⊢;clear BG0;generalize (w.alloc (.cells #[.slice gA n gc,.int .i64 caps,.bool runes] 48)).alloc (.cells #[.int .i64 0,.int .i64 0,.int .i64 0] 264)=w1 at *;have hpg:pb<gx:=by have:=World.block_lt_of_cell? _ _ c0;simp only at this;omega
 have hgw:w.heap.size≤gx:=om;clear EG0 EU hgx;have k0:=X1.cell c0;have k1:=X1.cell c1;have k2:=X1.cell c2;have k3:=X1.cell c3;have k4:=X1.cell c4;have g0:w1.cell? ⟨gx,0,none⟩=some (.slice gA n gc):=BG.cell 0;have g1:w1.cell? ⟨gx,1,none⟩=some (.int .i64 caps):=BG.cell 1;have g2:w1.cell? ⟨gx,2,none⟩=some (.bool runes):=BG.cell 2;have u0:w1.cell? ⟨gx+1,0,none⟩=some (.int .i64 0):=BU.cell 0;have u1:w1.cell? ⟨gx+1,1,none⟩=some (.int .i64 0):=BU.cell 1;have u2:w1.cell? ⟨gx+1,2,none⟩=some (.int .i64 0):=BU.cell 2;clear c0 c1 c2 c3 c4;by_cases hs:zl=[]
 ·subst hs;by_cases hq:(zx=0∧zy=0∧zn=0)
  ·have HRES:Hid (res=true):=lh (by rw[←hres.out];exact okB_t ⟨.inr rfl,.inr hq.2.1,.inr (.inr hq.1),.inr (.inr hq.2.2),.inl rfl⟩);have hqb:=eqNumT zx zy zn 0 0 0 hq;have HQ2:=fun(W:World)=>HQ zx zy zn 0 0 0 W;rw[hqb] at HQ2;clear HQ hq hqb;exact Y22z1
  ·have HRES:Hid (res=false):=lh (by rw[←hres.out];exact okB_f (fun h=>hq (by have h1:=h.2.1;have h2:=h.2.2.1;have h3:=h.2.2.2.1;simp only at h1 h2 h3;omega)));have hqb:=eqNumF zx zy zn 0 0 0 hq;have HQ2:=fun(W:World)=>HQ zx zy zn 0 0 0 W;rw[hqb] at HQ2;clear HQ hq hqb;exact Y22z1
 ·have HRES:Hid (res=false):=lh (by rw[←hres.out];exact okB_f (fun h=>h.1.elim (fun h1=>by first|exact absurd h1 de|(simp only at h1;omega)) hs));have hl0:((zl.length:Int) == 0)=false:=by rw[beq_eq_false_iff_ne];have:=List.length_pos_iff.2 hs;omega
  exact Y22z1
end
end Go.Proofs.YtmocoldobnimfaaGreat
