/- Texts of this proof: E3 E4 E5 E6o G0 E14 Cat R1 P3 P5 J1 P6 P9 Fe. -/
import Derived.Test.YtmpcoifnpflapaaGreatER05
import Derived.Test.YtmpcoifnpflapaaGreatER06
import Derived.Test.YtmpcoifnpflapaaGreatER07
import Derived.Lib.AppendZeros
import Derived.Deep.DrawnRows
import Derived.Laws.BytesArg
import Derived.Laws.StructEq
set_option linter.all false
set_option maxHeartbeats 2000000
namespace Go.Proofs.YtmpcoifnpflapaaGreat
section
open Go.RowKit
def SmB (n:Int):Prop:=-1152921504606846976<=n/\n<=1152921504606846976
def beginM (p a d n:Int):Int:=if p<a then p else if a+d<=p then p-d+n else a+n
def endM (p a d n:Int):Int:=if p<=a then p else if a+d<=p then p-d+n else a
theorem beginM1 {p a d n:Int}(h:p<a):beginM p a d n=p:=by simp[beginM,h]
theorem beginM2 {p a d n:Int}(h:¬p<a)(h2:a+d<=p):beginM p a d n=p-d+n:=by simp[beginM,h,h2]
theorem beginM3 {p a d n:Int}(h:¬p<a)(h2:¬a+d<=p):beginM p a d n=a+n:=by simp[beginM,h,h2]
theorem endM1 {p a d n:Int}(h:p<=a):endM p a d n=p:=by simp[endM,h]
theorem endM2 {p a d n:Int}(h:¬p<=a)(h2:a+d<=p):endM p a d n=p-d+n:=by simp[endM,h,h2]
theorem endM3 {p a d n:Int}(h:¬p<=a)(h2:¬a+d<=p):endM p a d n=a:=by simp[endM,h,h2]
theorem ret_i {a b:Int}(h:b=a):Ending.returned (.int .i64 a)=.returned (.int .i64 b):=by rw[h]
theorem xbegin_any (p a d n:Int)(w:World)(hp:SmB p)(ha:SmB a)(hd:SmB d)(hn:SmB n) :
 Calls Tryz.prog 145 #[.agg #[.int .i64 a,.int .i64 d,.int .i64 n],.int .i64 p] w (RetV (.int .i64 (beginM p a d n)) w):=by
 obtain⟨p1,p2⟩:=hp;obtain⟨a1,a2⟩:=ha;obtain⟨d1,d2⟩:=hd;obtain⟨n1,n2⟩:=hn;by_cases h:p<a
 ·go_enter Tryz.func145,Tryz.ntmps145
  go_wp2
  go_ret
  exact⟨ret_i (beginM1 h),Ext.alloc _ _⟩
 ·by_cases h2:a+d<=p
  ·go_enter Tryz.func145,Tryz.ntmps145
   go_wp2
   go_ret
   exact⟨ret_i (beginM2 om om),Ext.alloc _ _⟩
  ·go_enter Tryz.func145,Tryz.ntmps145
   go_wp2
   go_ret
   exact⟨ret_i (beginM3 om om),Ext.alloc _ _⟩
theorem xend_any (p a d n:Int)(w:World)(hp:SmB p)(ha:SmB a)(hd:SmB d)(hn:SmB n) :
 Calls Tryz.prog 146 #[.agg #[.int .i64 a,.int .i64 d,.int .i64 n],.int .i64 p] w (RetV (.int .i64 (endM p a d n)) w):=by
 obtain⟨p1,p2⟩:=hp;obtain⟨a1,a2⟩:=ha;obtain⟨d1,d2⟩:=hd;obtain⟨n1,n2⟩:=hn;by_cases h:p<=a
 ·go_enter Tryz.func146,Tryz.ntmps146
  go_wp2
  go_ret
  exact⟨ret_i (endM1 h),Ext.alloc _ _⟩
 ·by_cases h2:a+d<=p
  ·go_enter Tryz.func146,Tryz.ntmps146
   go_wp2
   go_ret
   exact⟨ret_i (endM2 om om),Ext.alloc _ _⟩
  ·go_enter Tryz.func146,Tryz.ntmps146
   go_wp2
   go_ret
   exact⟨ret_i (endM3 om om),Ext.alloc _ _⟩
theorem rbegin_any (p a d:Int)(A:Option Addr)(m c:Nat)(w:World)(hp:SmB p)(ha:SmB a)(hd:SmB d)(hn:SmB m) :
 Calls Tryz.prog 188 #[.int .i64 p,.agg #[.int .i64 a,.int .i64 d,.slice A m c]] w (RetV (.int .i64 (beginM p a d m)) w):=by
 obtain⟨p1,p2⟩:=hp;obtain⟨a1,a2⟩:=ha;obtain⟨d1,d2⟩:=hd;obtain⟨n1,n2⟩:=hn;by_cases h:p<a
 ·go_enter Tryz.func188,Tryz.ntmps188
  go_wp2
  go_ret
  exact⟨ret_i (beginM1 h),Ext.alloc _ _⟩
 ·by_cases h2:a+d<=p
  ·go_enter Tryz.func188,Tryz.ntmps188
   go_wp2
   go_ret
   exact⟨ret_i (beginM2 om om),Ext.alloc _ _⟩
  ·go_enter Tryz.func188,Tryz.ntmps188
   go_wp2
   go_ret
   exact⟨ret_i (beginM3 om om),Ext.alloc _ _⟩
theorem rend_any (p a d:Int)(A:Option Addr)(m c:Nat)(w:World)(hp:SmB p)(ha:SmB a)(hd:SmB d)(hn:SmB m) :
 Calls Tryz.prog 189 #[.int .i64 p,.agg #[.int .i64 a,.int .i64 d,.slice A m c]] w (RetV (.int .i64 (endM p a d m)) w):=by
 obtain⟨p1,p2⟩:=hp;obtain⟨a1,a2⟩:=ha;obtain⟨d1,d2⟩:=hd;obtain⟨n1,n2⟩:=hn;by_cases h:p<=a
 ·go_enter Tryz.func189,Tryz.ntmps189
  go_wp2
  go_ret
  exact⟨ret_i (endM1 h),Ext.alloc _ _⟩
 ·by_cases h2:a+d<=p
  ·go_enter Tryz.func189,Tryz.ntmps189
   go_wp2
   go_ret
   exact⟨ret_i (endM2 om om),Ext.alloc _ _⟩
  ·go_enter Tryz.func189,Tryz.ntmps189
   go_wp2
   go_ret
   exact⟨ret_i (endM3 om om),Ext.alloc _ _⟩
theorem extentOf_any (a d:Int)(A:Option Addr)(m c:Nat)(w:World)(_hm:SmB m) :
 Calls Tryz.prog 84 #[.agg #[.int .i64 a,.int .i64 d,.slice A m c]] w (RetV (.agg #[.int .i64 a,.int .i64 d,.int .i64 m]) w):=by
 go_enter Tryz.func84,Tryz.ntmps84
 go_wp2
 exact bodyPost_ret (v:=.agg #[.int .i64 a,.int .i64 d,.int .i64 m]) (by simp[results,Tryz.results84,go_sem]) rfl ⟨rfl,(Ext.alloc _ _).trans (Ext.alloc _ _)⟩
structure XL (w:World)(A:Option Addr)(c:Nat)(xs:List (Int×Int×Int)):Prop where
 le:xs.length<=c
 cap:c<=maxLen
 at_:xs≠[]->∃b o,A=some ⟨b,o,none⟩/\∀i (h:i<xs.length),w.cell? ⟨b,o+i*3,none⟩=some (.int .i64 xs[i].1)/\
  w.cell? ⟨b,o+i*3+1,none⟩=some (.int .i64 xs[i].2.1)/\w.cell? ⟨b,o+i*3+2,none⟩=some (.int .i64 xs[i].2.2)
def overOne (x:Int×Int)(y:Int×Int×Int):Int×Int:=
 (beginM x.1 y.1 y.2.1 y.2.2,if 0<x.2 then(if endM (x.1+x.2) y.1 y.2.1 y.2.2-beginM x.1 y.1 y.2.1 y.2.2<0 then 0 else endM (x.1+x.2) y.1 y.2.1 y.2.2-beginM x.1 y.1 y.2.1 y.2.2) else 0)
def overAll (x:Int×Int)(l:List (Int×Int×Int)):Int×Int:=l.foldl overOne x
theorem overAll_succ (x:Int×Int)(l:List (Int×Int×Int))(k:Nat)(h:k<l.length):overAll x (l.take (k+1))=overOne (overAll x (l.take k)) l[k]:=by
 unfold overAll;rw[List.take_succ_eq_append_getElem h,List.foldl_append];rfl
theorem beginM_bd {p a d n B:Int}(hp:0<=p)(ha:0<=a)(hd:0<=d)(hn:0<=n)(hB:n<=B):0<=beginM p a d n/\beginM p a d n<=p+B:=by
 unfold beginM;split
 ·omega
 ·split<;>omega
theorem endM_bd {p a d n B:Int}(ha:0<=a)(hd:0<=d)(hn:0<=n)(hB:n<=B)(hp:0<=p):endM p a d n<=p+B/\0<=endM p a d n:=by
 unfold endM;split
 ·omega
 ·split<;>omega
theorem overOne_bd {x:Int×Int}{y:Int×Int×Int}{B S:Int}(h0:0<=x.1/\0<=x.2)(hs:x.1+x.2<=S)(hy:0<=y.1/\0<=y.2.1/\0<=y.2.2/\y.2.2<=B) :
 0<=(overOne x y).1/\0<=(overOne x y).2/\(overOne x y).1+(overOne x y).2<=S+B:=by
 obtain⟨a,d⟩:=x;obtain⟨p,q,r⟩:=y
 simp only at *
 have hb:=beginM_bd (p:=a) (a:=p) (d:=q) (n:=r) (B:=B) h0.1 hy.1 hy.2.1 hy.2.2.1 hy.2.2.2;have he:=endM_bd (p:=a+d) (a:=p) (d:=q) (n:=r) (B:=B) hy.1 hy.2.1 hy.2.2.1 hy.2.2.2 om;refine⟨hb.1,?_,?_⟩
 ·simp only[overOne];split
  ·split<;>omega
  ·omega
 ·simp only[overOne];split
  ·split<;>omega
  ·omega
theorem E4z1 {P:Prop} (h:P:=by
 go_roundw
 case rel=>exact⟨k+1,om,by go_num,hee,⟨_,_,hov2,hbd.1,hbd.2.1,hbd.2.2,hbe⟩,hb1e⟩
 case measure=>simp[intOf];omega):P:=h
theorem over_any (a d n:Int)(A:Option Addr)(c:Nat)(l:List (Int×Int×Int))(w:World)(hl:XL w A c l)(B:Int)(hB:B<=576460752303423488)(hB0:0<=B)
 (h0:0<=a/\0<=d) (hs:a+d+l.length*B<=576460752303423488) (hy:∀y∈l,0<=y.1/\0<=y.2.1/\0<=y.2.2/\y.1+y.2.1<=576460752303423488/\y.2.2<=B) :
 Calls Tryz.prog 83 #[.agg #[.int .i64 a,.int .i64 d,.int .i64 n],.slice A l.length c] w (RetV (.agg #[.int .i64 (overAll (a,d) l).1,.int .i64 (overAll (a,d) l).2,.int .i64 n]) w):=by
 obtain⟨a1,a2⟩:=(⟨hl.le,by have:=hl.cap;unfold maxLen at this;omega⟩:l.length<=c/\c<=9223372036854775807);go_enter Tryz.func83,Tryz.ntmps83
 go_wp2
 go_loopw [11] (fun i wr=>∃k:Nat,k<=l.length/\i=.int .i64 k/\Ext w wr/\(∃a' d':Int,Hid (overAll (a,d) (l.take k)=(a',d'))/\0<=a'/\0<=d'/\a'+d'<=a+d+k*B/\Blk wr w.heap.size 179 #[.int .i64 a',.int .i64 d',.int .i64 n])/\
  Blk wr (w.heap.size+1) 179 #[.int .i64 0,.int .i64 0,.int .i64 0]) (fun i _=>l.length-(intOf i).toNat)
 case atStart=>exact⟨0,Nat.zero_le _,rfl,(Ext.alloc _ _).trans (Ext.alloc _ _),⟨a,d,rfl,h0.1,h0.2,by simp,(Blk.new _ _ _).alloc _⟩,by simpa using Blk.new (w.alloc _) _ _⟩
 case round=>
  obtain⟨k,hk,rfl,hext,⟨a',d',hov,ha',hd',hsum,hb0⟩,hb1⟩:=hrel;obtain⟨c0,c1,c2,f0,f1,f2,hz⟩:=hb0.c3;obtain⟨c0',c1',c2',f0',f1',f2',hz'⟩:=hb1.c3;by_cases hlt:k<l.length
  ·obtain⟨p1,o1,rfl,g1⟩:=hl.at_ (by intro h;subst h;simp at hlt);obtain⟨g1,g2,g3⟩:=g1 k hlt;have hin:=hy l[k] (List.getElem_mem hlt);have hbd:=overOne_bd (x:=(a',d')) (y:=l[k]) (B:=B) (S:=a+d+k*B) ⟨ha',hd'⟩ hsum ⟨hin.1,hin.2.1,hin.2.2.1,hin.2.2.2.2⟩;have hov':=overAll_succ (a,d) l k hlt;rw[hov.out] at hov';replace hov':=lh hov';clear hov;generalize l[k]=y at *;obtain⟨y1,y2,y3⟩:=y
   simp only at g1 g2 g3 hin hbd
   have hp1:=World.block_lt_of_cell? _ _ g1;have hlt2:(k:Int)<l.length:=om;replace g1:=hext.cell g1;replace g2:=hext.cell g2;replace g3:=hext.cell g3;have hkB:(k:Int)*B<=l.length*B:=Int.mul_le_mul_of_nonneg_right om hB0;have bA:a'+d'<=576460752303423488:=om;have hb:=beginM_bd (p:=a') (a:=y1) (d:=y2) (n:=y3) (B:=B) ha' hin.1 hin.2.1 hin.2.2.1 hin.2.2.2.2;have he:=endM_bd (p:=a'+d') (a:=y1) (d:=y2) (n:=y3) (B:=B) hin.1 hin.2.1 hin.2.2.1 hin.2.2.2.2 om;have hs1:(a+d+k*B)+B=a+d+((k+1:Nat):Int)*B:=by rw[Int.natCast_add,Int.add_mul];omega
   rw[hs1] at hbd;clear hsum hs hs1 hkB hy;by_cases hd0:0<d'
   ·have eo:overOne (a',d') (y1,y2,y3)=(beginM a' y1 y2 y3,if endM (a'+d') y1 y2 y3-beginM a' y1 y2 y3<0 then 0 else endM (a'+d') y1 y2 y3-beginM a' y1 y2 y3):=by simp[overOne,hd0]
    have hov2:=hov'.out;rw[eo] at hov2 hbd;clear eo hov';generalize hq:beginM a' y1 y2 y3=q at *;generalize hr:endM (a'+d') y1 y2 y3=r at *;replace hov2:=lh hov2;replace hq:=lh hq;replace hr:=lh hr
    go_wp2_with fail
    refine(xbegin_any _ _ _ _ _ ⟨om,om⟩ ⟨om,om⟩ ⟨om,om⟩ ⟨om,om⟩).mono ?_;rintro e w1 ⟨rfl,hx1⟩;rw[hq.out];have E1:=(Ext.alloc wr (.cells #[.int .i64 y1,.int .i64 y2,.int .i64 y3] 179)).trans hx1;obtain⟨d0,d1,d2,_,_,_,hz1⟩:=((Blk.new wr 179 #[.int .i64 y1,.int .i64 y2,.int .i64 y3]).ext hx1).c3;obtain⟨c10,c11,c12,f10,f11,f12,hz10⟩:=(hb0.ext E1).c3;clear c0 c1 c2 f0 f1 f2
    go_wp2_with fail
    refine(xend_any _ _ _ _ _ ⟨om,om⟩ ⟨om,om⟩ ⟨om,om⟩ ⟨om,om⟩).mono ?_;rintro e w2 ⟨rfl,hx2⟩;rw[hr.out];obtain⟨c20,c21,c22,f20,f21,f22,hz20⟩:=((hb0.ext E1).ext hx2).c3;clear c10 c11 c12 f10 f11 f12
    go_wp2
    have hbe:=((hb0.ext E1).ext hx2).set 0 (.int .i64 q) |>.set 1 (.int .i64 (if r-q<0 then 0 else r-q))
    have hb1e:=(((hb1.ext E1).ext hx2).far (p:=⟨w.heap.size,0,none⟩) si (.int .i64 q)).far (p:=⟨w.heap.size,1,none⟩) si (.int .i64 (if r-q<0 then 0 else r-q));have hee:=((hext.trans (E1.trans hx2)).setNew (p:=⟨w.heap.size,0,none⟩) (Nat.le_refl _) (.int .i64 q)).setNew (p:=⟨w.heap.size,1,none⟩) (Nat.le_refl _) (.int .i64 (if r-q<0 then 0 else r-q));exact E4z1
   ·have eo:overOne (a',d') (y1,y2,y3)=(beginM a' y1 y2 y3,0):=by simp[overOne,hd0]
    have hov2:=hov'.out;rw[eo] at hov2 hbd;clear eo hov' he;generalize hq:beginM a' y1 y2 y3=q at *;replace hov2:=lh hov2;replace hq:=lh hq
    go_wp2_with fail
    refine(xbegin_any _ _ _ _ _ ⟨om,om⟩ ⟨om,om⟩ ⟨om,om⟩ ⟨om,om⟩).mono ?_;rintro e w1 ⟨rfl,hx1⟩;rw[hq.out];have E1:=(Ext.alloc wr (.cells #[.int .i64 y1,.int .i64 y2,.int .i64 y3] 179)).trans hx1;obtain⟨c10,c11,c12,f10,f11,f12,hz10⟩:=(hb0.ext E1).c3;clear c0 c1 c2 f0 f1 f2
    go_wp2
    have hbe:=(hb0.ext E1).set 0 (.int .i64 q) |>.set 1 (.int .i64 0)
    have hb1e:=((hb1.ext E1).far (p:=⟨w.heap.size,0,none⟩) si (.int .i64 q)).far (p:=⟨w.heap.size,1,none⟩) si (.int .i64 0);have hee:=((hext.trans E1).setNew (p:=⟨w.heap.size,0,none⟩) (Nat.le_refl _) (.int .i64 q)).setNew (p:=⟨w.heap.size,1,none⟩) (Nat.le_refl _) (.int .i64 0);exact E4z1
  ·go_wp2
   have hk':k=l.length:=om;subst hk';have ho:=hov.out;rw[List.take_length] at ho;rw[ho];exact bodyPost_ret (v:=.agg #[.int .i64 a',.int .i64 d',.int .i64 n]) (by simp[results,Tryz.results83,go_sem,c0',c1',c2']) rfl ⟨rfl,((hext.setNew si _).setNew si _).setNew si _⟩
def RetOI (xs:List Int)(w:World)(e:Ending)(w':World):Prop:=∃(A:Option Addr) (c:Nat),e=.returned (.slice A xs.length c)/\OwnI w' w.heap.size 3 A c xs/\(∀x∈xs,I64 x)/\Ext w w'
theorem clone_own (A:Option Addr)(c:Nat)(l:List Int)(w:World)(hl:IL w A c l)(hb:l.length<=1099511627776) :
 Calls Tryz.prog 81 #[.slice A l.length c] w (RetOI l w):=by
 obtain⟨i0,hi0,hz0,hz1,hz2⟩:=info_parts infoInt
 cases A with
 | none=>
  have hl0:l=[]:=by
   rcases l with _|⟨x,l⟩
   ·rfl
   ·obtain⟨b,o,h,_⟩:=hl.at_ si;cases h
  subst hl0;have hn:=fun wx=>Lib.run_eql_slice_nil (P:=Tryz.prog) wx 22 3 none 0 c 0 0 Tryz.underlying22;go_enter Tryz.func81,Tryz.ntmps81
  go_wp2
  go_ret
  exact⟨none,0,rfl,OwnS.nil _ _ _ _,by simp,Ext.rfl' _⟩
 | some ad=>
  have hn:=fun wx=>Lib.run_eql_slice_nil (P:=Tryz.prog) wx 22 3 (some ad) l.length c 0 0 Tryz.underlying22;simp only[Option.isNone_some] at hn;have hm:=hl.len;have hown:OwnS (w.alloc (.cells #[] 3)) w.heap.size 3 1 (some ⟨w.heap.size,0,none⟩) 0 0 []:=
   OwnS.of_blk (Blk.new w 3 #[]) (Nat.le_refl _) rfl (Nat.le_refl _) (Nat.zero_le _)
  have hcl:=(hl.ext (Ext.alloc w (.cells #[] 3))).cells;have h1:=ints_one l;have h63:0+l.length<=maxLen:=by unfold maxLen;omega
  have h8:(0+l.length)*8<=140737488355328:=om;have H63:=lh h63;have H8:=lh h8;clear hb h63 h8;go_enter Tryz.func81,Tryz.ntmps81
  go_wp2_with ((at_builtin;refine wpList_app _ rfl _ _ _ rfl w.heap.size 3 i0 (.int .i64 0) 1 8 Tryz.underlying22 hi0 hz0 hz1 hz2 rfl om _ 0 0 [] rfl hown _ l.length c (l.map (Value.int .i64)) rfl si hcl h1 H63.out H8.out si ?_;intro A' c' w' hown' hg hat))
  go_ret
  simp only[List.nil_append,Nat.zero_add] at hown';have hE:Ext w w':=(Ext.alloc w (.cells #[] 3)).grown hg si;exact⟨A',c',by simp,hown',hl.rng,hE⟩
theorem clone_any (A:Option Addr)(c:Nat)(l:List Int)(w:World)(hl:IL w A c l)(hb:l.length<=1099511627776) :
 Calls Tryz.prog 81 #[.slice A l.length c] w (RetIL l w):=
 (clone_own A c l w hl hb).mono (fun _ _ ⟨A',c',h1,ho,hr,x⟩=>⟨A',c',h1,IL.of_own ho hr,x,OwnS.row ho⟩)
def tab12:List Int:=[97,97,97,98,98,99,97,98,10,32,65,200]
def sym12 (x:Int):Int:=tab12.getD (around x 12).toNat 0
def rtext (l:List Int)(m:Nat):List Int:=(l.take m).map sym12
theorem tab12_bd:∀p,p<12->0<=tab12.getD p 0/\tab12.getD p 0<=200:=by decide
theorem sym12_bd (x:Int):0<=sym12 x/\sym12 x<=200:=by
 have h:=around_bd x 12 om;exact tab12_bd _ om
theorem rtext_bd (l:List Int)(m:Nat):∀x∈rtext l m,0<=x/\x<=200:=by
 intro x hx;obtain⟨y,_,rfl⟩:=List.mem_map.1 hx;exact sym12_bd y
theorem rtext_len (l:List Int)(m:Nat):(rtext l m).length<=m:=by simp[rtext];omega
theorem rtext_succ (l:List Int)(k:Nat)(h:k<l.length):rtext l (k+1)=rtext l k++[sym12 l[k]]:=by
 unfold rtext;rw[List.take_succ_eq_append_getElem h,List.map_append];rfl
theorem I64_of {x:Int}(h : -1000000000000<=x/\x<=1000000000000):I64 x:=by unfold I64;omega
theorem rTextO_any (A:Option Addr)(c:Nat)(l:List Int)(m:Nat)(w:World)(hl:IL w A c l)(hm:m<=1000000) :
 Calls Tryz.prog 14 #[.slice A l.length c,.int .i64 m] w (RetOI (rtext l m) w):=by
 obtain⟨i0,hi0,hz0,hz1,hz2⟩:=info_parts infoInt;obtain⟨a1,a2⟩:=hl.len;go_enter Tryz.func14,Tryz.ntmps14
 go_wp2
 go_loopw [5,6] (fun v i wr=>∃(k:Nat) (A':Option Addr) (c':Nat),k<=l.length/\k<=m/\i=.int .i64 k/\v=.slice A' (rtext l k).length c'/\OwnI wr w.heap.size 3 A' c' (rtext l k)/\Ext w wr) (fun _ i _=>l.length-(intOf i).toNat)
 case atStart=>exact⟨0,none,0,Nat.zero_le _,Nat.zero_le _,rfl,rfl,OwnS.nil _ _ _ _,Ext.rfl' _⟩
 case round=>
  obtain⟨k,A',c',hk,hkm,rfl,rfl,hown,hext⟩:=hrel;have hlr:=rtext_len l k;by_cases hlt:k<l.length
  ·by_cases hlm:k<m
   ·have e1:=Ext.alloc wr (.cells (tab12.map (Value.int .i64)).toArray 3);have hB:=(Blk.new wr 3 (tab12.map (Value.int .i64)).toArray);have hs:=rtext_succ l k hlt;have hp:=around_bd l[k] 12 om;have hpk:pick l k 12=around l[k] 12:=by simp[pick,hlt]
    obtain⟨p,hp12,hpp⟩:∃p:Nat,p<12/\around l[k] 12=(p:Int):=⟨(around l[k] 12).toNat,om,om⟩;have hsy:sym12 l[k]=tab12.getD p 0:=by unfold sym12;rw[hpp];rfl
    rw[hsy] at hs;rw[hpp] at hpk;have HS:=lh hs;have HP:=lh hpk;clear hs hpk hsy hpp hp
    go_wp2_with fail
    refine(pick_any A c l k 12 _ (hl.ext (hext.trans e1)) om om om).mono ?_;rintro e w1 h1;obtain⟨rfl,hx1⟩:=h1.v;rw[HP.out];have hcell:=(hB.ext hx1).cell p;rw[show((tab12.map (Value.int .i64)).toArray)[p]? = some (.int .i64 (tab12.getD p 0)) by
     simp[List.getD,List.getElem?_eq_getElem (show p<tab12.length from hp12)]] at hcell
    have hE:=hext.trans (e1.trans hx1);have hown1:=OwnS.ext hown (e1.trans hx1);have hlt1:=(hB.ext hx1).lt;clear hB;have hp0:(p:Int)<12:=om;have HT:=lh (tab12_bd p hp12);generalize tab12.getD p 0=s at *
    go_wp2_with ((at_builtin;refine wpList_app1I (w1:=w1) rfl _ _ _ rfl 3 infoInt Tryz.underlying22 w hE s rfl A' c' (rtext l k) rfl hown1 rfl om (rtext l (k+1)) HS.out ?_;intro A2 c2 w2 hown2 hext2 _ _))
    go_roundw
    case rel=>exact⟨k+1,A2,c2,om,om,by go_num,rfl,hown2,hext2⟩
    case measure=>simp[intOf];omega
   ·have hk':k=m:=om;subst hk'
    go_wp2
    go_ret
    exact⟨A',c',rfl,hown,fun x hx=>I64_of (by have:=rtext_bd l k x hx;omega),hext⟩
  ·have hk':rtext l k=rtext l m:=by
    unfold rtext;rw[List.take_of_length_le om,List.take_of_length_le om]
   rw[hk'] at hown;have HK:=lh hk';clear hk'
   go_wp2
   go_ret
   rw[<-HK.out] at hown ⊢;exact⟨A',c',rfl,hown,fun x hx=>I64_of (by have:=rtext_bd l k x hx;omega),hext⟩
def blkL (A:Option Addr):List Nat:=(A.map (·.block)).toList
theorem mem_blkL {A:Option Addr}{b:Nat}:b∈blkL A<->A.map (·.block)=some b:=by
 unfold blkL;cases A.map (·.block)<;>simp[eq_comm]
theorem KpP.of_grown {w w':World}{A:Option Addr}(h:w.grownBy w' (A.map (·.block))):KpP (fun b=>A.map (·.block)=some b) w w':=
 ⟨h.os,h.tape,h.output,h.size,fun k hk hn=>h.block k hk (fun e=>hn e.symm)⟩
theorem IL.kp {w w':World}{A:Option Addr}{c:Nat}{xs:List Int}{p:Nat->Prop}(h:IL w A c xs)(k:KpP p w w')(hn:xs≠[]->∀b,A.map (·.block)=some b->¬p b):IL w' A c xs:=by
 refine⟨h.le,h.cap,h.rng,fun hx=>?_⟩;obtain⟨b,o,rfl,hc⟩:=h.at_ hx;refine⟨b,o,rfl,fun i hi=>?_⟩;have h1:=hc i hi;rw[World.cell?_of_block (w:=w) (k.block b (World.block_lt_of_cell? _ _ h1) (hn hx b rfl))];exact h1
theorem IL.blt {w:World}{A:Option Addr}{c:Nat}{xs:List Int}(h:IL w A c xs)(hx:xs≠[]){b:Nat}(hb:A.map (·.block)=some b):b<w.heap.size:=by
 obtain⟨b',o,rfl,hc⟩:=h.at_ hx;have:b'=b:=by simpa using hb
 subst this;exact World.block_lt_of_cell? _ _ (hc 0 (List.length_pos_iff.2 hx))
theorem OwnS.blt {w:World}{base e size n c:Nat}{A:Option Addr}{xs:List Value}(h:OwnS w base e size A n c xs){b:Nat}(hb:A.map (·.block)=some b):b<w.heap.size/\∃cur,w.heap[b]? = some (.cells cur e (0,0)):=by
 rcases h.form with⟨rfl,_⟩|⟨g,cur,rfl,_,hh,_⟩
 ·simp at hb
 ·have:g=b:=by simpa using hb
  subst this;exact⟨(Array.getElem?_eq_some_iff.1 hh).1,cur,hh⟩
theorem OwnS.kp {w w':World}{base e size n c:Nat}{A:Option Addr}{xs:List Value}{p:Nat->Prop}(h:OwnS w base e size A n c xs)(k:KpP p w w')(hn:∀b,A.map (·.block)=some b->¬p b):OwnS w' base e size A n c xs:=by
 refine⟨h.1,?_⟩;rcases h.2 with h2|⟨g,cap,cur,hv,hg,hh,r⟩
 ·exact Or.inl h2
 ·refine Or.inr ⟨g,cap,cur,hv,hg,?_,r⟩;injection hv with e1 _ _
  subst e1;exact(k.block g (Array.getElem?_eq_some_iff.1 hh).1 (hn g rfl)).trans hh
theorem KpP.kp {p:Nat->Prop}{a b:World}{L:List Nat}(h:Kp L a b)(hp:∀i∈L,p i):KpP p a b:=⟨h.os,h.tape,h.output,h.size,fun k hk hn=>h.block k hk (fun hm=>hn (hp k hm))⟩
theorem WI_kp {L:List Nat}{I:List (Nat×Nat)}{a b:World}{p:Nat->Prop}(h:KpP p a b)(hp:∀i,p i->i∈L):WI L I a b:=KpP.mono h (fun k hk=>.inl (hp k hk))
theorem Kp.kpP {L:List Nat}{a b c:World}{p:Nat->Prop}(h:Kp L a b)(k:KpP p b c)(hp:∀i,p i->i∈L):Kp L a c:=
 ⟨k.os.trans h.os,k.tape.trans h.tape,k.output.trans h.output,Nat.le_trans h.size k.size,fun i hi hn=>(k.block i (Nat.lt_of_lt_of_le hi h.size) (fun hq=>hn (hp i hq))).trans (h.block i hi hn)⟩
theorem blk_cells {w:World}{g T:Nat}{cs:List Value}(h:Blk w g T cs.toArray):CellsAt w (some ⟨g,0,none⟩) cs:=fun _=>⟨g,0,rfl,fun i hi=>by rw[h.cell];simp[hi]⟩
theorem KpP.thenKp {p:Nat->Prop}{a b c:World}{L:List Nat}(h:KpP p a b)(k:Kp L b c)(hp:∀i∈L,p i\/a.heap.size<=i):KpP p a c:=
 ⟨k.os.trans h.os,k.tape.trans h.tape,k.output.trans h.output,Nat.le_trans h.size k.size,fun i hi hn=>(k.block i (Nat.lt_of_lt_of_le hi h.size) (fun hm=>(hp i hm).elim hn (fun e=>om))).trans (h.block i hi hn)⟩
theorem KpP.thenGrown {p:Nat->Prop}{a b c:World}{A:Option Addr}(h:KpP p a b)(k:b.grownBy c (A.map (·.block)))(hp:∀i,A.map (·.block)=some i->a.heap.size<=i):KpP p a c:=by
 have kk:=KpP.of_grown k;exact⟨kk.os.trans h.os,kk.tape.trans h.tape,kk.output.trans h.output,Nat.le_trans h.size kk.size,fun i hi hn=>(kk.block i (Nat.lt_of_lt_of_le hi h.size) (fun hm=>by have:=hp i hm;omega)).trans (h.block i hi hn)⟩
theorem Ext.kp {p:Nat->Prop}{a b c:World}(h:Ext a b)(k:KpP p b c)(hp:∀i,p i->a.heap.size<=i):Ext a c:=
 ⟨k.os.trans h.os,k.tape.trans h.tape,k.output.trans h.output,Nat.le_trans h.size k.size,fun i hi=>(k.block i (Nat.lt_of_lt_of_le hi h.size) (fun hq=>by have:=hp i hq;omega)).trans (h.block i hi)⟩
theorem own_ne {w:World}{b1 b2 e1 e2 s1 s2 n1 n2 c1 c2:Nat}{A B:Option Addr}{xs ys:List Value}(h:OwnS w b1 e1 s1 A n1 c1 xs)(k:OwnS w b2 e2 s2 B n2 c2 ys)(hne:e1≠e2){b:Nat}(hb:A.map (·.block)=some b):B.map (·.block)≠some b:=fun e=>by
 obtain⟨_,cur,hh⟩:=OwnS.blt h hb;obtain⟨_,cur2,hh2⟩:=OwnS.blt k e;rw[hh] at hh2;injection hh2 with hh2;injection hh2 with _ h2
 exact hne h2
theorem own_blk {w:World}{b1 e1 s1 n1 c1 g T:Nat}{A:Option Addr}{xs:List Value}{cs:Array Value}(h:OwnS w b1 e1 s1 A n1 c1 xs)(k:Blk w g T cs)(hne:e1≠T):A.map (·.block)≠some g:=fun e=>by
 obtain⟨_,cur,hh⟩:=OwnS.blt h e;unfold Blk at k;rw[k] at hh;injection hh with hh;injection hh with _ h2
 exact hne h2.symm
theorem blk_blk {w:World}{g h T U:Nat}{cs ds:Array Value}(k:Blk w g T cs)(l:Blk w h U ds)(hne:T≠U):g≠h:=by
 rintro rfl;unfold Blk at k l;rw[k] at l;injection l with l;injection l with _ h2
 exact hne h2
def editErr (n:Nat)(a d:Int)(ins:List Int):Int:=
 if 0<=a/\0<=d/\a<=n/\d<=n-a then(if ins.all symOk=true then(if 65536<(n:Int)-d+ins.length then 4 else 0) else 5) else 5
theorem E14z4 {P:Prop} (h:P:=by
 rw[e];go_enter Tryz.func176,Tryz.ntmps176
 go_wp2
 go_ret
 exact⟨rfl,Ext.rfl' _⟩):P:=h
theorem check1_any (x:Int)(w:World):Calls Tryz.prog 176 #[.int .i64 x] w (RetV (.bool (!symOk x)) w):=by
 by_cases h1:x<0
 ·have e:symOk x=false:=by simp[symOk];omega
  exact E14z4
 ·by_cases h2:1114111<x
  ·have e:symOk x=false:=by simp[symOk];omega
   exact E14z4
  ·have e:symOk x=true:=by simp[symOk];omega
   exact E14z4
theorem indexFunc_any (A:Option Addr)(c:Nat)(l:List Int)(w:World)(hl:IL w A c l) :
 Calls Tryz.prog 191 #[.slice A l.length c,.func (Fn.func 176) #[] #[]] w fun e w'=>∃k:Int,e=.returned (.int .i64 k)/\(decide (0<=k) = !l.all symOk)/\Ext w w':=by
 obtain⟨a1,a2⟩:=hl.len;go_enter Tryz.func191,Tryz.ntmps191
 go_wp2
 go_loopw [8] (fun i wr=>∃k:Nat,k<=l.length/\i=.int .i64 k/\Hid ((l.take k).all symOk=true)/\Ext w wr) (fun i _=>l.length-(intOf i).toNat)
 case atStart=>exact⟨0,Nat.zero_le _,rfl,rfl,Ext.rfl' _⟩
 case round=>
  obtain⟨k,hk,rfl,ht,hext⟩:=hrel;by_cases hlt:k<l.length
  ·obtain⟨p1,o1,rfl,g1⟩:=hl.get hlt;replace g1:=hext.cell g1;have hb:=World.block_lt_of_cell? _ _ g1;have hlt2:(k:Int)<l.length:=om
   cases hs:symOk l[k] with
   | false=>
    have H:=lh hs;have hbad:=all_bad l k hlt hs;clear hs
    go_wp2_with fail
    refine(check1_any _ _).mono ?_;rintro e w1 ⟨rfl,hx1⟩;rw[H.out]
    go_wp2
    go_ret
    exact⟨_,rfl,by rw[hbad];simp,hext.trans hx1⟩
   | true=>
    have hs2:=lh (all_take_succ l k hlt ht.out hs);have H:=lh hs;clear hs ht
    go_wp2_with fail
    refine(check1_any _ _).mono ?_;rintro e w1 ⟨rfl,hx1⟩;rw[H.out]
    go_wp2
    go_roundw
    case rel=>exact⟨k+1,om,by go_num,hs2,hext.trans hx1⟩
    case measure=>simp[intOf];omega
  ·go_wp2
   go_ret
   have h1:=ht.out;rw[List.take_of_length_le om] at h1;exact⟨_,rfl,by rw[h1];simp,hext⟩
theorem containsFunc_any (A:Option Addr)(c:Nat)(l:List Int)(w:World)(hl:IL w A c l) :
 Calls Tryz.prog 150 #[.slice A l.length c,.func (Fn.func 176) #[] #[]] w (RetV (.bool (!l.all symOk)) w):=by
 go_enter Tryz.func150,Tryz.ntmps150
 go_wp2_with fail
 refine(indexFunc_any _ _ _ _ hl).mono ?_;rintro e w1 ⟨k,rfl,hk,hx⟩
 rw[<-hk]
 go_wp2
 go_ret
 exact⟨rfl,hx⟩
theorem E14z1 {P:Prop} (h:P:=by
 have e:editErr t a d l=5:=by unfold editErr;rw[if_neg om]
 rw[e];clear e;go_enter Tryz.func119,Tryz.ntmps119
 go_wp2
 go_ret
 exact⟨rfl,Ext.alloc _ _⟩):P:=h
theorem E14z3 {P:Prop} (h:P:=by
 rw[e];clear e;have H:=lh hs;clear hs;go_enter Tryz.func119,Tryz.ntmps119
 go_wp2_with fail
 refine(containsFunc_any _ _ _ _ (hl.ext hx)).mono ?_;rintro e w1 ⟨rfl,hx1⟩;rw[H.out];obtain⟨r0,r1,r2,_,_,_,_⟩:=(hb.ext hx1).c3
 go_wp2
 go_ret
 exact⟨rfl,hx.trans hx1⟩):P:=h
theorem tcheck_any (T:Option Addr)(t tc:Nat)(a d:Int)(A:Option Addr)(c:Nat)(l:List Int)(w:World)(hl:IL w A c l)(_ht:t<=9223372036854775807)(hlen:t+l.length<=9223372036854775807)(hd:I64 d) :
 Calls Tryz.prog 119 #[.slice T t tc,.agg #[.int .i64 a,.int .i64 d,.slice A l.length c]] w (RetV (.int .i64 (editErr t a d l)) w):=by
 obtain⟨d1,d2⟩:=hd;by_cases h1:a<0
 ·exact E14z1
 by_cases h2:d<0
 ·exact E14z1
 by_cases h3:(t:Int)<a
 ·exact E14z1
 by_cases h4:(t:Int)-a<d
 ·exact E14z1
 have hx:=Ext.alloc w (.cells #[.int .i64 a,.int .i64 d,.slice A l.length c] 55);have hb:=Blk.new w 55 #[.int .i64 a,.int .i64 d,.slice A l.length c]
 cases hs:l.all symOk with
 | false=>
  have e:editErr t a d l=5:=by unfold editErr;rw[if_pos om,hs];rfl
  rw[e];clear e;have H:=lh hs;clear hs;go_enter Tryz.func119,Tryz.ntmps119
  go_wp2_with fail
  refine(containsFunc_any _ _ _ _ (hl.ext hx)).mono ?_;rintro e w1 ⟨rfl,hx1⟩;rw[H.out]
  go_wp2
  go_ret
  exact⟨rfl,hx.trans hx1⟩
 | true=>
  by_cases h5:65536<(t:Int)-d+l.length
  ·have e:editErr t a d l=4:=by unfold editErr;rw[if_pos om,if_pos hs,if_pos h5]
   exact E14z3
  ·have e:editErr t a d l=0:=by unfold editErr;rw[if_pos om,if_pos hs,if_neg h5]
   exact E14z3
def growW (w:World)(n:Nat):World:=w.drew.alloc (.cells (Builtin.zeroCells (Value.int .i64 0).cells n++Builtin.zeroCells (Value.int .i64 0).cells (grownCap w n 0 3-n)) 3)
def growC (w:World)(n:Nat):Nat:=grownCap w n 0 3
theorem growC_bd (w:World)(n:Nat)(h:n<=1099511627776):n<=growC w n/\growC w n<=9223372036854775807:=
 ⟨grownCap_ge w n 0 _,by have:=grownCap_le_maxLen w n 0 3 um;unfold maxLen at this;unfold growC;omega⟩
theorem growW_run (w:World)(n:Nat)(h:0<n/\n<=1099511627776) :
 (Builtin.append_ #[22,3] 22 #[.slice none 0 0,.int .i64 n]).run Tryz.prog w=.ok (.slice (some ⟨w.heap.size,0,none⟩) n (growC w n)) (growW w n):=by
 obtain⟨i0,hi0,hz0,hz1,hz2⟩:=info_parts infoInt;exact Lib.run_append_nil_zeros (P:=Tryz.prog) w 22 3 22 3 i0 (.int .i64 0) .i64 .i64 Tryz.underlying22 Tryz.underlying3 hi0 hz0 n om om om (by rw[hz2];omega)
theorem growW_ext (w:World)(n:Nat):Ext w (growW w n):=(Ext.drew w).trans (Ext.alloc w.drew _)
theorem growW_own (w:World)(n:Nat)(h:n<=1099511627776):OwnS (growW w n) w.heap.size 3 1 (some ⟨w.heap.size,0,none⟩) 0 (growC w n) []:=by
 have hb:=growC_bd w n h;have hS:(Builtin.zeroCells (Value.int .i64 0).cells n++Builtin.zeroCells (Value.int .i64 0).cells (growC w n-n)).size=growC w n*1:=by
  simp[Builtin.zeroCells,Value.cells];omega
 have h1:=OwnS.of_blk (base:=w.heap.size) (c:=growC w n) (n:=0) (Blk.new w.drew 3 (Builtin.zeroCells (Value.int .i64 0).cells n++Builtin.zeroCells (Value.int .i64 0).cells (growC w n-n))) (Nat.le_refl _) hS (Nat.zero_le _) um;have h2:OwnS (w.drew.alloc (.cells (Builtin.zeroCells (Value.int .i64 0).cells n++Builtin.zeroCells (Value.int .i64 0).cells (growC w n-n)) 3)) w.heap.size 3 1 (some ⟨w.heap.size,0,none⟩) 0 (growC w n) []:=by simpa using h1
 exact h2
theorem grow_nil (n:Nat)(w:World)(hn:n<=1099511627776) :
 Calls Tryz.prog 147 #[.slice none 0 0,.int .i64 n] w fun e w'=>∃A c,e=.returned (.slice A 0 c)/\OwnI w' w.heap.size 3 A c []/\Ext w w':=by
 by_cases h0:n=0
 ·subst h0;go_enter Tryz.func147,Tryz.ntmps147
  go_wp2
  go_ret
  exact⟨none,0,rfl,OwnS.nil _ _ _ _,Ext.rfl' _⟩
 ·have hn0:(0:Int)<n:=om;have hnI:(n:Int)<=9223372036854775807:=om;have HB:=lh (show 0<n/\n<=1099511627776 by omega);obtain⟨hge,hle⟩:=growC_bd w n hn;clear h0 hn;go_enter Tryz.func147,Tryz.ntmps147
  go_wp2_with ((at_builtin;refine Lib.wpList_append_run _ rfl _ _ _ _ rfl _ _ rfl rfl _ _ (growW_run w n HB.out) ?_))
  go_ret
  exact⟨_,_,rfl,growW_own w n HB.out.2,growW_ext w n⟩
structure LL (w:World)(A:Option Addr)(c:Nat)(xss:List (List Int)):Prop where
 le:xss.length<=c
 cap:c<=maxLen
 at_:xss≠[]->∃b o,A=some ⟨b,o,none⟩/\∀i (h:i<xss.length),∃B d,w.cell? ⟨b,o+i,none⟩=some (.slice B xss[i].length d)/\IL w B d xss[i]
theorem LL.get {w:World}{A:Option Addr}{c:Nat}{xss:List (List Int)}(h:LL w A c xss){k:Nat}(hk:k<xss.length) :
 ∃b o B d,A=some ⟨b,o,none⟩/\w.cell? ⟨b,o+k,none⟩=some (.slice B xss[k].length d)/\IL w B d xss[k]:=by
 obtain⟨b,o,rfl,hc⟩:=h.at_ (by intro h0;subst h0;simp at hk);obtain⟨B,d,h1,h2⟩:=hc k hk;exact⟨b,o,B,d,rfl,h1,h2⟩
theorem LL.three {w:World}{g T:Nat}{A B C:Option Addr}{a b c:Nat}{x y z:List Int}
 (h:Blk w g T #[.slice A x.length a,.slice B y.length b,.slice C z.length c]) (hx:IL w A a x) (hy:IL w B b y) (hz:IL w C c z):LL w (some ⟨g,0,none⟩) 3 [x,y,z]:=
 ⟨by simp,by unfold maxLen;omega,fun _=>⟨g,0,rfl,fun i hi=>by
  match i,hi with
  | 0,_=>exact⟨A,a,h.cell 0,hx⟩
  | 1,_=>exact⟨B,b,h.cell 1,hy⟩
  | 2,_=>exact⟨C,c,h.cell 2,hz⟩⟩⟩
theorem flatten_take_succ (xss:List (List Int))(k:Nat)(h:k<xss.length):(xss.take (k+1)).flatten=(xss.take k).flatten++xss[k]:=by
 rw[List.take_succ_eq_append_getElem h,List.flatten_append];simp
theorem flatten_take_le (xss:List (List Int))(k:Nat):(xss.take k).flatten.length<=xss.flatten.length:=by
 conv=>rhs;rw[<-List.take_append_drop k xss,List.flatten_append,List.length_append]
 omega
def lenTo (xss:List (List Int))(k:Nat):Nat:=(xss.take k).flatten.length
theorem lenTo_succ (xss:List (List Int))(k:Nat)(h:k<xss.length):lenTo xss (k+1)=lenTo xss k+xss[k].length:=by
 unfold lenTo;rw[flatten_take_succ xss k h,List.length_append]
theorem lenTo_le (xss:List (List Int))(k:Nat):lenTo xss k<=xss.flatten.length:=flatten_take_le xss k
theorem lenTo_all (xss:List (List Int)):lenTo xss xss.length=xss.flatten.length:=by unfold lenTo;rw[List.take_length]
theorem OwnS.lower {w:World}{base base' e size n c:Nat}{A:Option Addr}{xs:List Value}(h:OwnS w base e size A n c xs)(hb:base'<=base):OwnS w base' e size A n c xs:=by
 refine⟨h.1,?_⟩;rcases h.2 with h|⟨g,cap,cur,h1,h2,h3⟩
 ·exact Or.inl h
 ·exact Or.inr ⟨g,cap,cur,h1,Nat.le_trans hb h2,h3⟩
theorem concat_any (A:Option Addr)(c:Nat)(xss:List (List Int))(w:World)(hl:LL w A c xss)(hb:xss.flatten.length<=1099511627776) :
 Calls Tryz.prog 88 #[.slice A xss.length c] w (RetIL xss.flatten w):=by
 obtain⟨i0,hi0,hz0,hz1,hz2⟩:=info_parts infoInt;obtain⟨a1,a2⟩:=(⟨hl.le,by have:=hl.cap;unfold maxLen at this;omega⟩:xss.length<=c/\c<=9223372036854775807);have HB:=lh hb;clear hb;go_enter Tryz.func88,Tryz.ntmps88
 go_wp2
 go_loopw [3,11] (fun s i wr=>∃k:Nat,k<=xss.length/\i=.int .i64 k/\s=.int .i64 (lenTo xss k:Nat)/\Ext w wr) (fun _ i _=>xss.length-(intOf i).toNat)
 case atStart=>exact⟨0,Nat.zero_le _,rfl,rfl,Ext.rfl' _⟩
 case round=>
  obtain⟨k,hk,rfl,rfl,hext⟩:=hrel;by_cases hlt:k<xss.length
  ·obtain⟨p1,o1,B,d,rfl,g1,i1⟩:=hl.get hlt;replace g1:=hext.cell g1;have hb1:=World.block_lt_of_cell? _ _ g1;have hlt2:(k:Int)<xss.length:=om;have hs:=lenTo_succ xss k hlt;have hs2:=lenTo_le xss (k+1);have hB:=HB.out;have hs3:(lenTo xss k:Int)+(xss[k].length:Int)<=1099511627776:=om;have hqm:((lenTo xss k:Int)+(xss[k].length:Int))=((lenTo xss (k+1):Nat):Int):=om;have HQ:=lh hqm;clear hB hs2 hs hqm;generalize xss[k].length=m at *;generalize lenTo xss k=q at *;have hneg:¬((q:Int)+(m:Int)<0):=om;have hneg2:0<=(q:Int)+(m:Int):=om
   go_wp2
   go_roundw
   case rel=>exact⟨k+1,om,by go_num,by rw[<-HQ.out],hext⟩
   case measure=>simp[intOf];omega
  ·have hk':k=xss.length:=om;subst hk';have hN:=lenTo_all xss;have hB:=HB.out
   rw[<-hN] at hB;have HN:=lh hN;have HG:=lh hB;clear hN hB
   go_wp2_with fail
   refine(grow_nil (lenTo xss xss.length) _ HG.out).mono ?_;rintro e w1 ⟨A1,c1,rfl,ho,hx⟩;replace ho:OwnI w1 w.heap.size 3 A1 c1 []:=OwnS.lower ho hext.size;replace hext:=hext.trans hx;clear hx HG
   go_wp2
   go_loopw [6,27] (fun v i wr=>∃(k:Nat) (A':Option Addr) (c':Nat),k<=xss.length/\i=.int .i64 k/\v=.slice A' (lenTo xss k) c'/\OwnI wr w.heap.size 3 A' c' (xss.take k).flatten/\Ext w wr) (fun _ i _=>xss.length-(intOf i).toNat)
   case atStart=>exact⟨0,A1,c1,Nat.zero_le _,rfl,rfl,ho,hext⟩
   case round=>
    clear ho hext;obtain⟨k,A',c',hk,rfl,rfl,hown,hext⟩:=hrel;by_cases hlt:k<xss.length
    ·obtain⟨p1,o1,B,d,rfl,g1,i1⟩:=hl.get hlt;replace g1:=hext.cell g1;replace i1:=i1.ext hext;have hb1:=World.block_lt_of_cell? _ _ g1;have hlt2:(k:Int)<xss.length:=om;have hs:=flatten_take_succ xss k hlt;have hs2:=lenTo_le xss (k+1);have hs3:=lenTo_succ xss k hlt;have hB:=HB.out;have hzl:lenTo xss k=(xss.take k).flatten.length:=rfl;have H63:=lh (show lenTo xss k+xss[k].length<=maxLen by unfold maxLen;omega);have H8:=lh (show(lenTo xss k+xss[k].length)*8<=140737488355328 by omega);have HCL:=lh i1.cells;have H1:=lh (ints_one xss[k]);have HSZ:=lh hext.size;have HS:=lh hs;have HS3:=lh hs3;have HO:=lh hown;unfold OwnI at HO
     rw[<-hzl] at HO;clear hs hs3 hs2 i1 hown hB hzl;generalize xss[k]=ys at *;generalize (xss.take k).flatten=zs at *;generalize hq:lenTo xss k=q at *;clear hq
     go_wp2_with ((at_builtin;refine wpList_app _ rfl _ _ _ rfl w.heap.size 3 i0 (.int .i64 0) 1 8 Tryz.underlying22 hi0 hz0 hz1 hz2 rfl om _ q c' (zs.map (Value.int .i64)) rfl HO.out _ ys.length d (ys.map (Value.int .i64)) rfl si HCL.out H1.out H63.out H8.out HSZ.out ?_;intro A2 c2 w2 hown2 hg2 _))
     have hx2:=hext.app HO.out hg2;go_roundw
     case rel=>exact⟨k+1,A2,c2,om,by go_num,by rw[HS3.out],by have h9:=HS3.out;unfold lenTo at h9;unfold OwnI;rw[h9,HS.out,List.map_append];exact hown2,hx2⟩
     case measure=>simp[intOf];omega
    ·have hk':k=xss.length:=om;subst hk';rw[List.take_length] at hown;have hrng:∀x∈xss.flatten,I64 x:=by
      intro x hx;obtain⟨l,hl1,hl2⟩:=List.mem_flatten.1 hx;obtain⟨j,hj,rfl⟩:=List.getElem_of_mem hl1;obtain⟨_,_,B,d,_,_,i1⟩:=hl.get hj;exact i1.rng x hl2
     have HO:=lh hown;have HR:=lh hrng;clear hown hrng
     go_wp2
     go_ret
     exact⟨A',c',by rw[<-HN.out];rfl,IL.of_own HO.out HR.out,hext,OwnS.row HO.out⟩
end
section
open Go.RowKit
attribute [local go_sem ↓] Go.wp_at_zero Go.wp_at_succ
def TyQ (T:Nat)(w:World)(p:Nat->Prop):Prop:=∀b,p b->∃cur,w.heap[b]? = some (.cells cur T (0,0))
theorem TyQ.no {T:Nat}{w:World}{p:Nat->Prop}(h:TyQ T w p){b T':Nat}{cur:Array Value}(hb:w.heap[b]? = some (.cells cur T' (0,0)))(hT:T'≠T):¬p b:=fun hp=>by
 obtain⟨cur',e⟩:=h b hp;rw[hb] at e;injection e with e
 injection e with _ e
 exact hT e
theorem TyQ.one {T g:Nat}{w:World}{cs:Array Value}(h:Blk w g T cs):TyQ T w (·=g):=fun b hb=>by subst hb;exact⟨cs,h⟩
def TyA (T:Nat)(w:World)(A:Option Addr):Prop:=∀b,A.map (·.block)=some b->∃cur,w.heap[b]? = some (.cells cur T (0,0))
theorem TyA.ext {T:Nat}{w w':World}{A:Option Addr}(h:TyA T w A)(x:Ext w w'):TyA T w' A:=fun b hb=>by
 obtain⟨cur,e⟩:=h b hb;exact⟨cur,(x.block b (Array.getElem?_eq_some_iff.1 e).1).trans e⟩
theorem TyA.kpP {T T':Nat}{w w':World}{A:Option Addr}{p:Nat->Prop}(h:TyA T w A)(k:KpP p w w')(hp:TyQ T' w p)(hT:T≠T'):TyA T w' A:=fun b hb=>by
 obtain⟨cur,e⟩:=h b hb;exact⟨cur,(k.block b (Array.getElem?_eq_some_iff.1 e).1 (hp.no e hT)).trans e⟩
theorem TyA.own {T base size n c:Nat}{w:World}{A:Option Addr}{xs:List Value}(h:OwnS w base T size A n c xs):TyA T w A:=fun b hb=>by
 rcases OwnS.form h with⟨rfl,_⟩|⟨g,cur,rfl,_,hh,_⟩
 ·cases hb
 ·injection hb with hb;subst hb;exact⟨cur,hh⟩
structure Mo (w0:World)(g:Nat)(ok:Int->Prop)(S:World->Nat->List Int->Prop):Prop where
 ext:∀{w w':World} {a:Nat} {ts:List Int},S w a ts->Ext w w'->S w' a ts
 kp:∀{w w':World} {a:Nat} {ts:List Int} {p:Nat->Prop},S w a ts->KpP p w w'->TyQ 162 w p->S w' a ts
 join:∀(w:World),Ext w0 w->∀(a b:Nat) (ta tb:List Int),S w a ta->S w b tb->(∀x∈ta,ok x)->(∀x∈tb,ok x)->ta.length+tb.length<=65536->
  Calls Tryz.prog 36 #[.pointer (some ⟨g,0,none⟩),.pointer (some ⟨a,0,none⟩),.pointer (some ⟨b,0,none⟩)] w (fun e w'=>∃gs,e=.returned (.tuple #[.pointer (some ⟨gs,0,none⟩),.int .i64 0])/\S w' gs (ta++tb)/\Ext w w')
 of:∀(w:World),Ext w0 w->∀(A:Option Addr) (c:Nat) (ts:List Int),IL w A c ts->(∀x∈ts,ok x)->ts.length<=65536->
  Calls Tryz.prog 21 #[.pointer (some ⟨g,0,none⟩),.slice A ts.length c] w (fun e w'=>∃gs,e=.returned (.tuple #[.pointer (some ⟨gs,0,none⟩),.int .i64 0])/\S w' gs ts/\Ext w w')
 emp:∀(w:World),Ext w0 w->Calls Tryz.prog 42 #[.pointer (some ⟨g,0,none⟩)] w (fun e w'=>∃gs,e=.returned (.pointer (some ⟨gs,0,none⟩))/\S w' gs []/\Ext w w')
def lfV (b:Nat):Value:=.iface 256 (.pointer (some ⟨b,0,none⟩))
def inV (b:Nat):Value:=.iface 259 (.pointer (some ⟨b,0,none⟩))
def RtAt (S:World->Nat->List Int->Prop)(w:World):Value->Sh->Prop
 | v,.lf ts=>∃(b:Nat) (A:Option Addr) (c gs:Nat),v=lfV b/\Blk w b 258 #[.slice A ts.length c,.pointer (some ⟨gs,0,none⟩)]/\IL w A c ts/\TyA 3 w A/\S w gs ts
 | v,.nd l r=>∃(b:Nat) (vl vr:Value) (gs:Nat),v=inV b/\Blk w b 261 #[vl,vr,.int .i64 (l.text++r.text).length,.int .i64 (Sh.nd l r).hgt,.pointer (some ⟨gs,0,none⟩)]/\RtAt S w vl l/\RtAt S w vr r/\S w gs (l.text++r.text)
section
variable {w0 w w':World} {g:Nat} {ok:Int->Prop} {S:World->Nat->List Int->Prop}
theorem RtAt.ext (M:Mo w0 g ok S)(x:Ext w w'):∀{t:Sh} {v:Value},RtAt S w v t->RtAt S w' v t
 | .lf _,_,⟨b,A,c,gs,e,hb,hi,ht,hs⟩=>⟨b,A,c,gs,e,hb.ext x,hi.ext x,ht.ext x,M.ext hs x⟩
 | .nd _ _,_,⟨b,vl,vr,gs,e,hb,h1,h2,hs⟩=>⟨b,vl,vr,gs,e,hb.ext x,RtAt.ext M x h1,RtAt.ext M x h2,M.ext hs x⟩
theorem RtAt.kp (M:Mo w0 g ok S){p:Nat->Prop}(k:KpP p w w')(q:TyQ 162 w p):∀{t:Sh} {v:Value},RtAt S w v t->RtAt S w' v t
 | .lf _,_,⟨b,A,c,gs,e,hb,hi,ht,hs⟩=>⟨b,A,c,gs,e,k.blk hb (q.no hb de),hi.kp k (fun _ b' hb'=>by
  obtain⟨cur,e'⟩:=ht b' hb';exact q.no e' de),ht.kpP k q de,M.kp hs k q⟩
 | .nd _ _,_,⟨b,vl,vr,gs,e,hb,h1,h2,hs⟩=>⟨b,vl,vr,gs,e,k.blk hb (q.no hb de),RtAt.kp M k q h1,RtAt.kp M k q h2,M.kp hs k q⟩
end
end
section
open Go.RowKit
structure Hin where
 op:Int
 x:Int
 y:Int
 n:Int
 A:Option Addr
 c:Nat
 l:List Sp
def Hin.ins (h:Hin):Ins:=⟨h.op,h.x,h.y,h.n,h.l⟩
def Hin.wf (h:Hin):Prop:=I64 h.op/\I64 h.x/\I64 h.y/\I64 h.n
def flatN (hs:List Hin):List Value:=hs.flatMap fun h=>[.int .i64 h.op,.int .i64 h.x,.int .i64 h.y,.int .i64 h.n,.slice h.A h.l.length h.c]
theorem flatN_append (l m:List Hin):flatN (l++m)=flatN l++flatN m:=by simp[flatN]
theorem flatN_len (l:List Hin):(flatN l).length=l.length*5:=by
 induction l with
 | nil=>rfl
 | cons y l ih=>simp only[flatN,List.flatMap_cons,List.length_append] at *;simp only[List.length_cons,List.length_nil];omega
theorem flatN_one (l:List Hin):∀u∈flatN l,u.oneCell'=true:=by
 intro u hu;obtain⟨o,_,hu⟩:=List.mem_flatMap.1 hu;simp only[List.mem_cons,List.not_mem_nil,or_false] at hu;rcases hu with rfl|rfl|rfl|rfl|rfl<;>rfl
theorem flatN_get (l:List Hin)(i:Nat)(h:i<l.length):(flatN l)[i*5]? = some (.int .i64 l[i].op)/\(flatN l)[i*5+1]? = some (.int .i64 l[i].x)/\(flatN l)[i*5+2]? = some (.int .i64 l[i].y)/\
 (flatN l)[i*5+3]? = some (.int .i64 l[i].n)/\(flatN l)[i*5+4]? = some (.slice l[i].A l[i].l.length l[i].c):=by
 induction l generalizing i with
 | nil=>simp at h
 | cons y l ih=>
  cases i with
  | zero=>simp[flatN]
  | succ i=>
   have hi:i<l.length:=by simpa using h
   have e:flatN (y::l)=.int .i64 y.op::.int .i64 y.x::.int .i64 y.y::.int .i64 y.n::.slice y.A y.l.length y.c::flatN l:=by simp[flatN]
   have e1:(i+1)*5=i*5+5:=om;rw[e,e1];exact ih i hi
structure PL (w:World)(A:Option Addr)(c:Nat)(hs:List Hin):Prop where
 le:hs.length<=c
 cap:c<=maxLen
 rng:∀h∈hs,h.wf
 sl:∀h∈hs,SL w h.A h.c h.l
 at_:hs≠[]->∃b o,A=some ⟨b,o,none⟩/\∀i (h:i<hs.length),w.cell? ⟨b,o+i*5,none⟩=some (.int .i64 hs[i].op)/\w.cell? ⟨b,o+i*5+1,none⟩=some (.int .i64 hs[i].x)/\
  w.cell? ⟨b,o+i*5+2,none⟩=some (.int .i64 hs[i].y)/\w.cell? ⟨b,o+i*5+3,none⟩=some (.int .i64 hs[i].n)/\w.cell? ⟨b,o+i*5+4,none⟩=some (.slice hs[i].A hs[i].l.length hs[i].c)
namespace PL
variable {w w':World} {A:Option Addr} {c:Nat} {hs:List Hin}
theorem ext (h:PL w A c hs)(k:Ext w w'):PL w' A c hs:=by
 refine⟨h.le,h.cap,h.rng,fun z hz=>(h.sl z hz).ext k,fun hn=>?_⟩;obtain⟨b,o,rfl,hc⟩:=h.at_ hn;exact⟨b,o,rfl,fun i hi=>⟨k.cell (hc i hi).1,k.cell (hc i hi).2.1,k.cell (hc i hi).2.2.1,k.cell (hc i hi).2.2.2.1,k.cell (hc i hi).2.2.2.2⟩⟩
theorem len (h:PL w A c hs):hs.length<=c/\c<=9223372036854775807:=⟨h.le,by have:=h.cap;unfold maxLen at this;omega⟩
theorem get {k:Nat}(h:PL w A c hs)(hk:k<hs.length):∃b o,A=some ⟨b,o,none⟩/\w.cell? ⟨b,o+k*5,none⟩=some (.int .i64 hs[k].op)/\w.cell? ⟨b,o+k*5+1,none⟩=some (.int .i64 hs[k].x)/\
 w.cell? ⟨b,o+k*5+2,none⟩=some (.int .i64 hs[k].y)/\w.cell? ⟨b,o+k*5+3,none⟩=some (.int .i64 hs[k].n)/\w.cell? ⟨b,o+k*5+4,none⟩=some (.slice hs[k].A hs[k].l.length hs[k].c):=by
 obtain⟨b,o,rfl,hc⟩:=h.at_ (by intro h0;subst h0;simp at hk);exact⟨b,o,rfl,hc k hk⟩
theorem of_own {base T:Nat}(h:OwnS w base T 5 A hs.length c (flatN hs))(hr:∀z∈hs,z.wf)(hsl:∀z∈hs,SL w z.A z.c z.l):PL w A c hs:=by
 have hc:=OwnS.caps h;refine⟨hc.1,by unfold maxLen;omega,hr,hsl,fun hn=>?_⟩;obtain⟨b,o,hA,hcell⟩:=OwnS.cells h (by intro e;have:=flatN_len hs;rw[e] at this;simp at this;exact hn (List.length_eq_zero_iff.1 om));have one:∀(i:Nat) (v:Value),(flatN hs)[i]? = some v->w.cell? ⟨b,o+i,none⟩=some v:=fun i v hv=>by
  obtain⟨l1,e1⟩:=List.getElem?_eq_some_iff.1 hv;rw[hcell i l1,e1]
 refine⟨b,o,hA,fun i hi=>?_⟩;obtain⟨g0,g1,g2,g3,g4⟩:=flatN_get hs i hi;refine⟨one _ _ g0,?_,?_,?_,?_⟩
 ·rw[Nat.add_assoc];exact one _ _ g1
 ·rw[Nat.add_assoc];exact one _ _ g2
 ·rw[Nat.add_assoc];exact one _ _ g3
 ·rw[Nat.add_assoc];exact one _ _ g4
end PL
end
def symAt (G:List Ins)(c:Int)(p:Nat):Bool:=match G[p]? with|some i=>decide (i.op=1)&&has i.set c|none=>false
def nextG (G:List Ins)(l:St)(c:Int):St:=stateG G ((l.filter (symAt G c)).map (·+1))
def doneG (G:List Ins)(l:St):Bool:=match l.getLast? with|some p=>isD G p|none=>false
theorem doneG_last {G:List Ins}{l:St}(h:l≠[]):doneG G l=isD G (l.getLast h):=by
 unfold doneG;rw[List.getLast?_eq_some_getLast h]
theorem nextG_alike {G:List Ins}{a b:Int}(h:∀i∈G,i.op=1->has i.set a=has i.set b)(l:St):nextG G l a=nextG G l b:=by
 have e:∀p,symAt G a p=symAt G b p:=fun p=>by
  unfold symAt
  cases hg:G[p]? with
  | none=>rfl
  | some i=>
   simp only
   by_cases h1:i.op=1
   ·rw[h i (List.mem_of_getElem? hg) h1]
   ·simp[h1]
 unfold nextG;rw[List.filter_congr (fun p _=>e p)]
def InsAt (G:List Ins)(p:Nat):Prop:=∃h:p<G.length,G[p].op≠2/\G[p].op≠3/\G[p].op≠4
theorem addR_in (G:List Ins):∀f s pc,(∀p∈s.1,InsAt G p)->∀p∈(addR G f s pc).1,InsAt G p
 | 0,s,pc,h=>by unfold addR;exact h
 | f+1,s,pc,h=>by
  unfold addR
  split
  ·exact h
  ·split
   ·exact h
   ·rename_i i hi
    obtain⟨hlt,he⟩:=List.getElem?_eq_some_iff.1 hi
    split
    ·exact addR_in G f _ _ (addR_in G f _ _ h)
    ·split
     ·exact addR_in G f _ _ h
     ·split
      ·exact addR_in G f _ _ h
      ·rename_i h2 h3 h4
       intro p hp;rcases List.mem_append.1 hp with hp|hp
       ·exact h p hp
       ·have:p=pc:=by simpa using hp
        subst this;exact⟨hlt,by rw[he];exact⟨h2,h3,h4⟩⟩
theorem foldR_in (G:List Ins)(N:Nat):∀(r:List Nat) (s:List Nat×List Nat),(∀p∈s.1,InsAt G p)->∀p∈(r.foldl (addR G N) s).1,InsAt G p
 | [],s,h=>h
 | q::r,s,h=>foldR_in G N r _ (addR_in G N s q h)
theorem cutD_sub {G:List Ins}:∀{l:List Nat} {p:Nat},p∈cutD G l->p∈l
 | q::r,p,h=>by
  unfold cutD at h
  split at h
  ·have:p=q:=by simpa using h
   subst this;simp
  ·rcases List.mem_cons.1 h with rfl|h
   ·simp
   ·exact List.mem_cons_of_mem _ (cutD_sub h)
theorem stateG_in (G:List Ins)(r:List Nat):∀p∈stateG G r,InsAt G p:=fun p hp=>foldR_in G _ r ([],[]) si p (cutD_sub hp)
theorem addR_seen (G:List Ins):∀f s pc,s.2.length<=(addR G f s pc).2.length
 | 0,s,pc=>Nat.le_refl _
 | f+1,s,pc=>by
  unfold addR
  split
  ·exact Nat.le_refl _
  ·split
   ·exact Nat.le_refl _
   ·rename_i i _
    have h1:s.2.length<=(s.2++[pc]).length:=by simp
    split
    ·exact Nat.le_trans h1 (Nat.le_trans (addR_seen G f (s.1,s.2++[pc]) i.x.toNat) (addR_seen G f _ i.y.toNat))
    ·split
     ·exact Nat.le_trans h1 (addR_seen G f (s.1,s.2++[pc]) i.x.toNat)
     ·split
      ·exact Nat.le_trans h1 (addR_seen G f (s.1,s.2++[pc]) (pc+1))
      ·exact h1
def SeenOk (n:Nat)(seen:List Nat):Prop:=seen.Nodup/\∀p∈seen,p<n
theorem SeenOk.nil (n:Nat):SeenOk n []:=⟨by simp,by simp⟩
theorem SeenOk.len {n:Nat}{seen:List Nat}(h:SeenOk n seen):seen.length<=n:=by
 have h1:=List.Nodup.length_le_of_subset (l₁:=seen) (l₂:=List.range n) h.1 (fun p hp=>List.mem_range.2 (h.2 p hp))
 rwa [List.length_range] at h1
theorem SeenOk.snoc {n:Nat}{seen:List Nat}(h:SeenOk n seen){pc:Nat}(hp:pc<n)(hn:pc∉seen):SeenOk n (seen++[pc]):=by
 refine⟨?_,fun p hp2=>?_⟩
 ·rw[List.nodup_append];exact⟨h.1,by simp,fun a ha b hb=>by
   have:b=pc:=by simpa using hb
   subst this;rintro rfl;exact hn ha⟩
 ·rcases List.mem_append.1 hp2 with h1|h1
  ·exact h.2 p h1
  ·have:p=pc:=by simpa using h1
   omega
theorem addR_ok {G:List Ins}:∀f s pc,SeenOk G.length s.2->SeenOk G.length (addR G f s pc).2
 | 0,s,pc,h=>h
 | f+1,s,pc,h=>by
  unfold addR
  split
  ·exact h
  ·rename_i hn
   split
   ·exact h
   ·rename_i i hi
    obtain⟨hlt,_⟩:=List.getElem?_eq_some_iff.1 hi;have h1:=h.snoc hlt hn
    split
    ·exact addR_ok f _ _ (addR_ok f (s.1,s.2++[pc]) _ h1)
    ·split
     ·exact addR_ok f (s.1,s.2++[pc]) _ h1
     ·split
      ·exact addR_ok f (s.1,s.2++[pc]) _ h1
      ·exact h1
theorem addR_len (G:List Ins):∀f s pc,(addR G f s pc).1.length+s.2.length<=s.1.length+(addR G f s pc).2.length
 | 0,s,pc=>by unfold addR;omega
 | f+1,s,pc=>by
  unfold addR
  split
  ·omega
  ·split
   ·omega
   ·rename_i i _
    have h1:(s.2++[pc]).length=s.2.length+1:=by simp
    split
    ·have h2:=addR_len G f (s.1,s.2++[pc]) i.x.toNat;have h3:=addR_len G f (addR G f (s.1,s.2++[pc]) i.x.toNat) i.y.toNat
     simp only at h2;omega
    ·split
     ·have h2:=addR_len G f (s.1,s.2++[pc]) i.x.toNat
      simp only at h2;omega
     ·split
      ·have h2:=addR_len G f (s.1,s.2++[pc]) (pc+1)
       simp only at h2;omega
      ·simp only[List.length_append,List.length_cons,List.length_nil];omega
section
open Go.RowKit
structure Nd where
 op:Int
 A:Option Addr
 c:Nat
 l:List Sp
 K:Option Addr
 kc:Nat
 ks:List Value
 mn:Int
 mx:Int
 md:Int
 n:Int
 neg:Bool
def Nd.cs (h:Nd):List Value:=[.int .i64 h.op,.slice h.A h.l.length h.c,.slice h.K h.ks.length h.kc,.int .i64 h.mn,.int .i64 h.mx,.int .i64 h.md,.int .i64 h.n,.bool h.neg]
def cellsOf:Value->List Value
 | .agg cs=>cs.toList
 | v=>[v]
theorem bytes_beq (a b:ByteArray):(a == b)=decide (a=b):=by
 rw[beq_toListBytes,ByteArray.toList_eq,ByteArray.toList_eq];obtain⟨⟨x⟩⟩:=a;obtain⟨⟨y⟩⟩:=b;rw[Bool.eq_iff_iff]
 simp
theorem findNow_str (x:ByteArray):∀(es:List MapEntry) (ks:List ByteArray) (j:Nat),es.map (·.key)=ks.map Value.string->
 Instr.findNow .string (.string x) es j=some ((ks.findIdx? (fun y=>decide (y=x))).map fun i=>(j+i,((es[i]?).map (·.val)).getD undef))
 | [],[],_,_=>by simp[Instr.findNow]
 | [],_::_,_,h=>by simp at h
 | _::_,[],_,h=>by simp at h
 | e::es,y::ks,j,h=>by
  simp only[List.map_cons,List.cons.injEq] at h;simp only[Instr.findNow,h.1,Instr.sameNow,bytes_beq];have ih:=findNow_str x es ks (j+1) h.2;by_cases hxy:x=y
  ·subst hxy;simp[List.findIdx?_cons]
  ·have e2:¬y=x:=fun e=>hxy e.symm;simp only[hxy,decide_false,ih,List.findIdx?_cons,e2,Bool.false_eq_true,if_false,Option.map_map]
   congr 2
   funext i
   simp only[Function.comp,List.getElem?_cons_succ]
   congr 1;omega
theorem str_klaw {P:Program}{k:TypeId}(hk:P.underlying k=some .string):KLaw P k Value.string where
 check:=fun e x w=>by
  unfold Instr.checkKey;simp[Sem.run_bind,run_underlying hk]
 find:=fun x es ks h w=>by
  have e:(ks.findIdx? (fun y=>decide (y=x)))=ks.findIdx? (@BEq.beq ByteArray instBEqOfDecidableEq · x):=rfl;unfold Instr.findKey;simp only[Sem.run_bind,run_underlying hk,Result.andThen_ok,findNow_str x es ks 0 h,e]
  simp
 same:=fun x=>by simp[Instr.sameBits,bytes_beq]
def keyB (l:List Nat):List Int:=l.flatMap (fun i=>[((i / 256 % 256:Nat):Int),((i % 256:Nat):Int)])
theorem keyB_len (l:List Nat):(keyB l).length=2*l.length:=by
 induction l with
 | nil=>rfl
 | cons x l ih=>simp only[keyB,List.flatMap_cons,List.length_append] at *;simp only[List.length_cons,List.length_nil];omega
theorem keyB_u8 (l:List Nat):∀b∈keyB l,0<=b/\b<256:=by
 intro b hb;obtain⟨i,_,hb⟩:=List.mem_flatMap.1 hb;simp only[List.mem_cons,List.not_mem_nil,or_false] at hb;omega
theorem keyB_inj:∀{l m:List Nat},(∀i∈l,i<65536)->(∀i∈m,i<65536)->keyB l=keyB m->l=m
 | [],[],_,_,_=>rfl
 | [],y::m,_,_,h=>by simp[keyB] at h
 | x::l,[],_,_,h=>by simp[keyB] at h
 | x::l,y::m,hl,hm,h=>by
  have e1:keyB (x::l)=((x / 256 % 256:Nat):Int)::((x % 256:Nat):Int)::keyB l:=by simp[keyB]
  have e2:keyB (y::m)=((y / 256 % 256:Nat):Int)::((y % 256:Nat):Int)::keyB m:=by simp[keyB]
  rw[e1,e2,List.cons.injEq,List.cons.injEq] at h;obtain⟨h1,h2,h3⟩:=h;have hx:=hl x si;have hy:=hm y si;have:x=y:=om;rw[this,keyB_inj (fun i hi=>hl i (by simp[hi])) (fun i hi=>hm i (by simp[hi])) h3]
theorem strOf_inj {xs ys:List Int}(hx:∀b∈xs,0<=b/\b<256)(hy:∀b∈ys,0<=b/\b<256)(h:strOfNums xs=strOfNums ys):xs=ys:=by
 have h1:=congrArg (fun b=>b.data.toList) h;simp only[strOfNums_data] at h1;induction xs generalizing ys with
 | nil=>
  cases ys with
  | nil=>rfl
  | cons y ys=>simp at h1
 | cons x xs ih=>
  cases ys with
  | nil=>simp at h1
  | cons y ys=>
   simp only[List.map_cons,List.cons.injEq] at h1;have hx1:=hx x si;have hy1:=hy y si;have e:=congrArg UInt8.toNat h1.1;simp only[UInt8.toNat_ofNat'] at e;have e2:x=y:=om;rw[e2,ih (fun b hb=>hx b (by simp[hb])) (fun b hb=>hy b (by simp[hb])) (by simp[strOfNums,h1.2]) h1.2]
def keyS (l:List Nat):ByteArray:=strOfNums (keyB l)
theorem keyS_inj {l m:List Nat}(hl:∀i∈l,i<65536)(hm:∀i∈m,i<65536)(h:keyS l=keyS m):l=m:=
 keyB_inj hl hm (strOf_inj (keyB_u8 l) (keyB_u8 m) h)
theorem keyS_find {L:List (List Nat)}(hL:∀l∈L,∀i∈l,i<65536){l:List Nat}(hl:∀i∈l,i<65536) :
 (L.zipIdx.map (fun p=>(keyS p.1,(p.2:Int)))).find? (fun p=>decide (p.1=keyS l))=if l∈L then some (keyS l,(L.idxOf l:Int)) else none:=by
 have gen:∀(L:List (List Nat)) (j:Nat),(∀l∈L,∀i∈l,i<65536)->((L.zipIdx j).map (fun p=>(keyS p.1,(p.2:Int)))).find? (fun p=>decide (p.1=keyS l))=if l∈L then some (keyS l,((j+L.idxOf l:Nat):Int)) else none:=by
  intro L;induction L with
  | nil=>intro j _;rfl
  | cons m L ih=>
   intro j hL;rw[List.zipIdx_cons,List.map_cons,List.find?_cons];by_cases hml:m=l
   ·subst hml;simp[List.idxOf_cons]
   ·have h1:¬keyS m=keyS l:=fun e=>hml (keyS_inj (hL m si) hl e);simp only[h1,decide_false];rw[ih (j+1) (fun l hl=>hL l (by simp[hl]))];have h2:(m == l)=false:=by rw[beq_eq_false_iff_ne];exact hml
    have h3:¬l=m:=fun e=>hml e.symm;simp only[List.mem_cons,h3,false_or,List.idxOf_cons,h2,cond_false]
    split
    ·congr 2;omega
    ·rfl
 have:=gen L 0 hL
 simpa using this
end
section
def befR (nx:Nat->Nat->Int)(s k t:Nat):List Nat:=((List.range k).filter (fun j=>decide (nx s j=(t:Int)))).map (fun _=>s)
def bef (nx:Nat->Nat->Int)(m i t:Nat):List Nat:=(List.range i).flatMap (fun s=>befR nx s m t)
def befK (nx:Nat->Nat->Int)(m i k t:Nat):List Nat:=bef nx m i t++befR nx i k t
section
variable {nx:Nat->Nat->Int} {m i k t:Nat}
theorem befK_zero:befK nx m i 0 t=bef nx m i t:=by simp[befK,befR]
theorem befK_all:befK nx m i m t=bef nx m (i+1) t:=by simp[befK,bef,List.range_succ]
theorem befK_yes (h:nx i k=(t:Int)):befK nx m i (k+1) t=befK nx m i k t++[i]:=by
 simp[befK,befR,List.range_succ,List.filter_append,h]
theorem befK_no (h:nx i k≠(t:Int)):befK nx m i (k+1) t=befK nx m i k t:=by
 simp[befK,befR,List.range_succ,List.filter_append,h]
theorem befR_mem {p s:Nat}:p∈befR nx s k t<->p=s/\StpI nx k s t:=by
 unfold befR StpI;simp only[List.mem_map,List.mem_filter,List.mem_range,decide_eq_true_eq];constructor
 ·rintro⟨j,⟨h1,h2⟩,rfl⟩;exact⟨rfl,j,h1,h2⟩
 ·rintro⟨rfl,j,h1,h2⟩;exact⟨j,⟨h1,h2⟩,rfl⟩
theorem bef_mem {n p:Nat}:p∈bef nx m n t<->p<n/\StpI nx m p t:=by
 unfold bef;simp only[List.mem_flatMap,List.mem_range,befR_mem];constructor
 ·rintro⟨s,h1,rfl,h2⟩;exact⟨h1,h2⟩
 ·rintro⟨h1,h2⟩;exact⟨p,h1,rfl,h2⟩
theorem befR_len:∀k,(befR nx i k t).length<=k:=fun k=>by
 unfold befR;rw[List.length_map];exact Nat.le_trans (List.length_filter_le _ _) si
theorem bef_len:∀i,(bef nx m i t).length<=i*m
 | 0=>by simp[bef]
 | i+1=>by
  have h:=bef_len i;have h2:(bef nx m (i+1) t).length=(bef nx m i t).length+(befR nx i m t).length:=by simp[bef,List.range_succ]
  have h3:(befR nx i m t).length<=m:=befR_len m;rw[h2,Nat.succ_mul];omega
theorem befK_len:(befK nx m i k t).length<=i*m+k:=by
 unfold befK;have h:=bef_len (nx:=nx) (m:=m) (t:=t) i;have h3:(befR nx i k t).length<=k:=befR_len k;rw[List.length_append];omega
def befL (nx:Nat->Nat->Int)(m i k n:Nat):List (List Nat):=(List.range n).map (befK nx m i k)
theorem befL_len {n:Nat}:(befL nx m i k n).length=n:=by simp[befL]
theorem befL_get {n:Nat}(h:t<(befL nx m i k n).length):(befL nx m i k n)[t]=befK nx m i k t:=by simp[befL]
theorem befL_start {n:Nat}:befL nx m 0 0 n=List.replicate n []:=by
 refine List.ext_getElem (by simp[befL]) (fun j h1 h2=>?_);simp[befL,befK,bef,befR]
theorem befL_row {n:Nat}:befL nx m i m n=befL nx m (i+1) 0 n:=by
 unfold befL;refine List.map_congr_left (fun t _=>?_);rw[befK_all,befK_zero]
theorem befL_no {n:Nat}(h:nx i k<0):befL nx m i (k+1) n=befL nx m i k n:=by
 unfold befL;refine List.map_congr_left (fun t _=>?_);exact befK_no om
theorem befL_yes {n:Nat}(h:nx i k=(t:Int)):(befL nx m i k n).set t (befK nx m i k t++[i])=befL nx m i (k+1) n:=by
 refine List.ext_getElem (by simp[befL]) (fun j h1 h2=>?_);rw[List.getElem_set];by_cases e:t=j
 ·subst e;rw[if_pos rfl,befL_get,befK_yes h]
 ·rw[if_neg e,befL_get,befL_get,befK_no om]
end
def Mk1 (op:List Bool)(x:Nat):Prop:=op.getD x false=true
theorem Mk1.set {op:List Bool}{s:Nat}(hs:s<op.length)(x:Nat):Mk1 (op.set s true) x<->Mk1 op x\/x=s:=by
 unfold Mk1;simp only[List.getD_eq_getElem?_getD,List.getElem?_set];by_cases e:s=x
 ·subst e;simp[hs]
 ·have e2:¬x=s:=fun h=>e h.symm;simp[e,e2]
def cntF (op:List Bool):Nat:=(op.filter (fun b=>!b)).length
theorem cntF_set:∀{op:List Bool} {s:Nat} (hs:s<op.length),op[s]=false->cntF (op.set s true)+1=cntF op
 | b::r,0,_,h=>by
  have h':b=false:=h;subst h';simp[cntF]
 | b::r,s+1,hs,h=>by
  have h1:=cntF_set (op:=r) (s:=s) (by simpa using hs) (by simpa using h);unfold cntF at h1 ⊢
  cases b<;>simp at h1 ⊢<;>omega
theorem cntF_mono:∀{op op':List Bool},op.length=op'.length->(∀x,Mk1 op x->Mk1 op' x)->cntF op'<=cntF op
 | [],[],_,_=>Nat.le_refl _
 | [],_::_,h,_=>by simp at h
 | _::_,[],h,_=>by simp at h
 | b::r,b'::r',hl,h=>by
  have h1:=cntF_mono (op:=r) (op':=r') (by simpa using hl) (fun x hx=>by
   have:=h (x+1) (by simpa[Mk1] using hx)
   simpa[Mk1] using this)
  have h0:=h 0;simp[Mk1] at h0;unfold cntF at h1 ⊢
  cases b<;>cases b'<;>simp at h0 h1 ⊢<;>omega
end
section
open Go.RowKit
section
variable {P:Program} {ops:Array Oper} {Q:Exit->Act->World->Prop} {w0:World} {s:Nat}
def Xe (s:Nat)(w0:World)(P:Program)(ops:Array Oper)(Q:Exit->Act->World->Prop)(n:Nat)(ls:List Nat)(a:Act)(w:World):Prop:=
 wpS P ops (NoPanic Q) w0 s (fun n listed a w=>wpAny P .any ops (NoPanic Q) n listed a w) n (bits ops.size ls) a w
theorem Xe.start {id:Nat}{a:Act}{w:World}(s:Nat)(hm:P.follows .mixedOrders=true)(h:Xe s w P ops Q ops.size [] a w):(Code.region id ops true).wp P Q a w:=by
 refine wp_region_noPanic (wp_region_any hm ?_);unfold Xe at h;rw[bits_nil] at h;refine wpAny_of_S ?_ _ ?_ (Ext.drew w) (wpS_ext _ h (Ext.drew w))
 ·exact fun n listed a w h=>h
 ·intro k hk
  exfalso
  by_cases hkn:k<ops.size
  ·simp[hkn] at hk
  ·simp[hkn] at hk
variable {n:Nat} {ls:List Nat} {a:Act} {w:World}
theorem Xe.take (i:Nat)(d:Option Tmp){oi:Oper}{v:Value}(hi:ops[i]? = some oi)(hd:oi.dst=d)
 (hok:okTakeS ops s ls i=true) (hw:Region.wanted oi (yielded ops a.tmps)=true)
 (hrun:∀w',Ext w0 w'->(execOp a.eval oi).run P w'=.ok (.value v) w') (h:Xe s w0 P ops Q n (i::ls) (a.put d v) w):Xe s w0 P ops Q (n+1) ls a w:=by
 subst hd;simp only[okTakeS,Bool.and_eq_true] at hok;obtain⟨⟨⟨h1,h2⟩,h3⟩,h4⟩:=hok;refine takeS hi (Region.noSelect_spec h1) (NoPanic.never Q) 8 (by simpa using h4) n (Region.free_spec hi h2) (by simpa using h3) (.inl ⟨hw,hrun⟩) ?_;rw[bits_set];exact h
theorem Xet (i:Nat){d:Option Tmp}{oi:Oper}{v:Value}{b:Act}(h:Xe s w0 P ops Q n (i::ls) b w)(hi:ops[i]? = some oi:=by rfl)(hd:oi.dst=d:=by(conv=>lhs;whnf);try rfl)(hok:okTakeS ops s ls i=true:=by decide +kernel)(hw:Region.wanted oi (yielded ops a.tmps)=true:=by rfl)
 (hrun:∀w',Ext w0 w'->(execOp a.eval oi).run P w'=.ok (.value v) w':=by intro w' hk;go_simp;(try with_reducible rfl);done)
 (hb:a.put d v=b:=by(try simp only[Act.put,List.setIfInBounds_toArray,List.set_cons_zero,List.set_cons_succ]);(try with_reducible rfl);done):Xe s w0 P ops Q (n+1) ls a w:=Xe.take i d hi hd hok hw hrun (hb▸h)
theorem Xe.last {o:Oper}(ho:ops[s]? = some o)(hr:(Region.ready .any ops (bits ops.size ls) == [s]&&Region.ready .any ops (bits ops.size (s::ls)) == [])=true)(hw:Region.wanted o (yielded ops a.tmps)=true)
 (h:∀w',Ext w w'->Ext w0 w'->∀K,(∀a2 w2,Q .normal a2 w2->K a2 w2)->o.wp P a w' K (NoPanic Q)):Xe s w0 P ops Q (n+1) ls a w:=by
 simp only[Bool.and_eq_true,beq_iff_eq] at hr;obtain⟨hr,hr2⟩:=hr;intro _;refine⟨by rw[hr];simp,fun _=>⟨hr,fun w' x1 x2=>?_⟩,fun j hj hjs=>?_⟩
 ·refine⟨fun h0=>(by rw[hr] at h0;cases h0),fun j hj=>?_⟩;rw[hr] at hj;obtain rfl:=List.mem_singleton.1 hj;refine step_of ho hw fun K' hK'=>h w' x1 x2 K' fun a2 w2 hq=>hK' a2 w2 ?_;rw[bits_set]
  cases n with
  | zero=>exact⟨hr2,hq⟩
  | succ n=>exact⟨fun _=>hq,fun i hi=>(by rw[hr2] at hi;cases hi)⟩
 ·rw[hr] at hj;exact absurd (List.mem_singleton.1 hj) hjs
end
end
end Go.Proofs.YtmpcoifnpflapaaGreat
