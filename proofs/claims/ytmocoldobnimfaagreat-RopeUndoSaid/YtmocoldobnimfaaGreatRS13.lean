/- Texts of this proof: OU. -/
import Derived.Test.YtmocoldobnimfaaGreatRS12
set_option linter.all false
set_option maxRecDepth 100000
set_option maxHeartbeats 8000000
namespace Go.Proofs.YtmocoldobnimfaaGreat
section
open Go.RowKit
attribute [local go_sem ↓] Go.wp_at_zero Go.wp_at_succ
theorem all_symOk {l:List Int}(h:∀x∈l,0<=x/\x<=200):l.all symOk=true:=List.all_eq_true.2 fun x hx=>by
 have:=h x hx;unfold symOk
 simp;omega
theorem undo_text (t l:List Int)(k d:Nat)(h:k+d<=t.length):(t.take k++l++t.drop (k+d)).take k++((t.take (k+d)).drop k)++(t.take k++l++t.drop (k+d)).drop (k+l.length)=t:=by
 have hk:(t.take k).length=k:=by rw[List.length_take];omega
 have h1:(t.take k++l++t.drop (k+d)).take k=t.take k:=by
  rw[List.append_assoc,List.take_append_of_le_length om,List.take_of_length_le om]
 have h2:(t.take k++l++t.drop (k+d)).drop (k+l.length)=t.drop (k+d):=by
  rw[show k+l.length=(t.take k++l).length by rw[List.length_append,hk],List.drop_left]
 have h3:t.take k++(t.take (k+d)).drop k=t.take (k+d):=by
  have:=List.take_append_drop k (t.take (k+d))
  rwa [List.take_take,Nat.min_eq_left om] at this
 rw[h1,h2,h3,List.take_append_drop]
theorem undo_err {n k m:Nat}{l:List Int}(h:k+m<=n)(hl:l.all symOk=true)(hn:(n:Int)-m+l.length<=65536):editErr n k m l=0:=by
 unfold editErr;rw[if_pos om,if_pos hl,if_neg om]
theorem apart_text (t A B:List Int)(p d k e k2:Nat)(h1:p+d<=k)(h2:k+e<=t.length)(hk:k2+d=k+A.length) :
 (t.take p++A++t.drop (p+d)).take k2++B++(t.take p++A++t.drop (p+d)).drop (k2+e)=(t.take k++B++t.drop (k+e)).take p++A++(t.take k++B++t.drop (k+e)).drop (p+d):=by
 obtain⟨a,b,c,f,g,rfl,ha,hb,hc,hf⟩:∃a b c f g:List Int,t=a++(b++(c++(f++g)))/\a.length=p/\b.length=d/\c.length=k-p-d/\f.length=e:=by
  refine⟨t.take p,(t.drop p).take d,(t.drop (p+d)).take (k-p-d),(t.drop k).take e,t.drop (k+e),?_,by rw[List.length_take];omega,by rw[List.length_take,List.length_drop];omega,by rw[List.length_take,List.length_drop];omega,by rw[List.length_take,List.length_drop];omega⟩;have e1:t.drop k=(t.drop k).take e++t.drop (k+e):=by rw[<-List.drop_drop];exact(List.take_append_drop e (t.drop k)).symm
  have e2:t.drop (p+d)=(t.drop (p+d)).take (k-p-d)++t.drop k:=by
   have h:=(List.take_append_drop (k-p-d) (t.drop (p+d))).symm
   rwa [List.drop_drop,show p+d+(k-p-d)=k by omega] at h
  have e3:t.drop p=(t.drop p).take d++t.drop (p+d):=by rw[<-List.drop_drop];exact(List.take_append_drop d (t.drop p)).symm
  rw[<-e1,<-e2,<-e3,List.take_append_drop]
 have r1:∀(u v:List Int) (n:Nat),n=u.length->(u++v).take n=u:=fun u v n h=>by rw[h,List.take_left]
 have r2:∀(u v:List Int) (n:Nat),n=u.length->(u++v).drop n=v:=fun u v n h=>by rw[h,List.drop_left]
 have q1:(a++(b++(c++(f++g)))).take p=a:=r1 _ _ _ ha.symm;have q2:(a++(b++(c++(f++g)))).drop (p+d)=c++(f++g):=by
  rw[show a++(b++(c++(f++g)))=(a++b)++(c++(f++g)) by simp];exact r2 _ _ _ (by simp;omega)
 have q3:(a++(b++(c++(f++g)))).take k=a++(b++c):=by
  rw[show a++(b++(c++(f++g)))=(a++(b++c))++(f++g) by simp];exact r1 _ _ _ (by simp;omega)
 have q4:(a++(b++(c++(f++g)))).drop (k+e)=g:=by
  rw[show a++(b++(c++(f++g)))=(a++(b++(c++f)))++g by simp];exact r2 _ _ _ (by simp;omega)
 rw[q1,q2,q3,q4];have q5:(a++A++(c++(f++g))).take k2=a++A++c:=by
  rw[show a++A++(c++(f++g))=(a++A++c)++(f++g) by simp];exact r1 _ _ _ (by simp;omega)
 have q6:(a++A++(c++(f++g))).drop (k2+e)=g:=by
  rw[show a++A++(c++(f++g))=(a++A++c++f)++g by simp];exact r2 _ _ _ (by simp;omega)
 have q7:(a++(b++c)++B++g).take p=a:=by
  rw[show a++(b++c)++B++g=a++((b++c)++B++g) by simp];exact r1 _ _ _ ha.symm
 have q8:(a++(b++c)++B++g).drop (p+d)=c++B++g:=by
  rw[show a++(b++c)++B++g=(a++b)++(c++B++g) by simp];exact r2 _ _ _ (by simp;omega)
 rw[q5,q6,q7,q8]
 simp
def setEd (w:World)(g:Nat)(a d:Int)(A:Option Addr)(n c:Nat):World:=((w.setCell ⟨g,0,none⟩ (.int .i64 a)).setCell ⟨g,1,none⟩ (.int .i64 d)).setCell ⟨g,2,none⟩ (.slice A n c)
theorem setEd_blk {w:World}{g T:Nat}{a0 a1 a2:Value}(h:Blk w g T #[a0,a1,a2])(a d:Int)(A:Option Addr)(n c:Nat):Blk (setEd w g a d A n c) g T #[.int .i64 a,.int .i64 d,.slice A n c]:=by
 have h:=((h.set 0 (.int .i64 a)).set 1 (.int .i64 d)).set 2 (.slice A n c)
 simpa[setEd] using h
theorem setEd_ext {u w:World}{g:Nat}(h:Ext u w)(hg:u.heap.size<=g)(a d:Int)(A:Option Addr)(n c:Nat):Ext u (setEd w g a d A n c):=
 ((h.setNew (p:=⟨g,0,none⟩) hg _).setNew (p:=⟨g,1,none⟩) hg _).setNew (p:=⟨g,2,none⟩) hg _
theorem setEd_kp {L:List Nat}{u w:World}{g:Nat}(h:Kp L u w)(hg:g∈L)(a d:Int)(A:Option Addr)(n c:Nat):Kp L u (setEd w g a d A n c):=
 ((h.set (p:=⟨g,0,none⟩) (.inl hg) _).set (p:=⟨g,1,none⟩) (.inl hg) _).set (p:=⟨g,2,none⟩) (.inl hg) _
theorem setEd_kpp {p:Nat->Prop}{u w:World}{g:Nat}(h:KpP p u w)(hg:p g)(a d:Int)(A:Option Addr)(n c:Nat):KpP p u (setEd w g a d A n c):=
 ((h.set (x:=⟨g,0,none⟩) (.inl hg) _).set (x:=⟨g,1,none⟩) (.inl hg) _).set (x:=⟨g,2,none⟩) (.inl hg) _
theorem setEd_kpN {L:List Nat}{u w:World}{g:Nat}(h:Kp L u w)(hg:u.heap.size<=g)(a d:Int)(A:Option Addr)(n c:Nat):Kp L u (setEd w g a d A n c):=((h.setN hg 0 _).setN hg 1 _).setN hg 2 _
def RetUn (t:List Int)(a d:Nat)(l:List Int)(w:World)(e:Ending)(w':World):Prop:=∃(A:Option Addr) (c:Nat),e=.returned (.tuple #[.agg #[.int .i64 a,.int .i64 l.length,.slice A ((t.take (a+d)).drop a).length c],.int .i64 0])/\IL w' A c ((t.take (a+d)).drop a)/\Ext w w'/\Fr w A
theorem tundo_ok (T:Option Addr)(tc:Nat)(t:List Int)(a d:Nat)(A:Option Addr)(c:Nat)(l:List Int)(w:World)(hT:IL w T tc t)(hl:IL w A c l)(htl:t.length<=1000000)(hll:l.length<=1000000)(he:editErr t.length a d l=0) :
 Calls Tryz.prog 60 #[.slice T t.length tc,.agg #[.int .i64 a,.int .i64 d,.slice A l.length c]] w (RetUn t a d l w):=by
 obtain⟨B0,B2,E0⟩:=alloc2 w 102 #[.int .i64 a,.int .i64 d,.slice A l.length c] 102 #[.int .i64 0,.int .i64 0,.slice none 0 0];obtain⟨_,_,f3,_,_⟩:=editErr_ok he;have had:a+d<=t.length:=om;have HTL:=hT.len;have HLL:=hl.len;have HCK:=fun(w':World) (x:Ext w w')=>lh (tcheck_any T t.length tc a d A c l w' (hl.ext x) om om (by unfold I64;omega));rw[he] at HCK;have HT:=lh hT;clear hT hl he f3;go_enter Tryz.func60,Tryz.ntmps60
 go_upto_region 1 with fail
 obtain⟨g1,hg1⟩:∃g,g=w.heap.size:=⟨_,rfl⟩;obtain⟨g2,hg2e⟩:∃g,g=w.heap.size+1:=⟨_,rfl⟩
 rw[<-hg2e] at B2 ⊢
 rw[<-hg1] at B0 ⊢;have hne:g1≠g2:=om;have hg2:w.heap.size<=g2:=om;clear hg1 hg2e;generalize (w.alloc (.cells #[.int .i64 (a:Int),.int .i64 (d:Int),.slice A l.length c] 102)).alloc (.cells #[.int .i64 0,.int .i64 0,.slice none 0 0] 102)=wa at *;obtain⟨z0,z1,z2,_⟩:=B0.c3
 go_upto_region 2 with(go_at_call 103;refine(HCK wa E0).out.mono ?_;rintro e w3 ⟨rfl,x3⟩)
 have B3:=B2.ext x3;obtain⟨k0,k1,k2,_⟩:=(B0.ext x3).c3;have HX3:=lh (E0.trans x3);have HB3:=lh B3;have HGG:=lh B3.lt;clear z0 z1 z2 B0 B2 E0 x3 B3 HCK
 go_upto_region 4 with fail
 have q0:=fun(w':World) (h:Kp [g2] w3 w')=>h.cell k0 (by simp[hne]);have q1:=fun(w':World) (h:Kp [g2] w3 w')=>h.cell k1 (by simp[hne]);have q2:=fun(w':World) (h:Kp [g2] w3 w')=>h.cell k2 (by simp[hne]);clear k0 k1 k2;obtain⟨s,hs⟩:∃s,s=a+d:=⟨_,rfl⟩;have HCL:=fun(W:World) (x:Ext w3 W)=>lh (clone_any (dropI T tc a) (tc-a) ((t.take s).drop a) W (IL.dropN (IL.take (HT.out.ext (HX3.out.trans x)) s) (by rw[List.length_take];omega)) (by rw[List.length_drop,List.length_take];omega));have HPL:((t.take s).drop a).length=s-a:=by rw[List.length_drop,List.length_take];omega
 obtain⟨pt,hpt⟩:∃pt,pt=(t.take s).drop a:=⟨_,rfl⟩
 rw[<-hpt] at HCL HPL;have HPT:=lh hpt;clear hpt;have hadI:(a:Int)+(d:Int)=(s:Int):=om;have hsl:s<=t.length:=om;have has:a<=s:=om;have hsd:Hid (s=a+d):=lh hs;clear hs;have hsw:IntKind.i64.wrap (s:Int)=(s:Int):=wj;rw[HPL] at HCL;have HPL2:=lh HPL;clear HPL;refine Xr.start [g2] kr ?_;refine Xtk 0 ?_
 iterate 12(refine Xtn ?_)
 refine Xr.take 13 (some 27) (v:=.slice (dropI T tc a) ((s-a:Nat)) (tc-a)) rfl rfl dK (by rfl) (fun w' hk=>by
  clear HCL q0 q1 q2;by_cases hca:tc=a
  ·have e1:dropI T tc a=T:=by unfold dropI;rw[if_pos hca]
   rw[e1];go_simp;have:=hsd.out;intro h;exact absurd h om
  ·have e1:dropI T tc a=T.map (fun x=>x.add a):=by unfold dropI;rw[if_neg hca]
   rw[e1];go_simp;have:=hsd.out;intro h;exact absurd h om) ?_
 refine ptm ?_;refine Xcl 14 fun w5 hE5 hK5 K hKK=>?_;go_simp;refine(HCL w5 hE5).out.mono ?_;rintro e w6 ⟨A6,c6,rfl,hi6,x6,hf6⟩;rw[HPL2.out];refine hKK _ _ x6 ?_;clear hKK HCL;refine ptm ?_;refine Xtk 15 ?_;refine Xsp 16 fun w7 hE7 hK7 K hKK=>?_;have B7:=HB3.out.ext ((hE5.trans x6).trans hE7);obtain⟨y0,y1,y2,f0,f1,f2,_⟩:=B7.c3;go_simp;change K _ (setEd w7 g2 a l.length A6 (s-a) c6);refine hKK _ _ (setEd_kpp (KpP.refl _ _) (.inl si) _ _ _ _ _) (setEd_kp hK7 si _ _ _ _ _) ?_;clear hKK;refine ptm ?_;refine Xtk 17 ?_;refine Xdn fun w8 hE8 hK8=>?_;have b9:=(setEd_blk B7 a l.length A6 (s-a) c6).ext hE8;have x9:=(setEd_ext (HX3.out.trans ((hE5.trans x6).trans hE7)) hg2 a l.length A6 (s-a) c6).trans hE8;have HI:Hid (IL w8 A6 c6 pt):=lh (((hi6.ext hE7).kp (setEd_kpp (p:=(·=g2)) (KpP.refl _ w7) rfl a l.length A6 (s-a) c6) (fun _ b hb e=>by
  have h1:=hf6 b hb;have h2:=HGG.out;have h3:=hE5.size;have h4:b=g2:=e;omega)).ext hE8)
 have HFR:Hid (Fr w A6):=lh (fun b hb=>by have h1:=hf6 b hb;have h2:=HX3.out.size;have h3:=hE5.size;omega);clear hE5 hK5 hE7 hK7 hE8 hK8 x6 hi6 B7 hf6;obtain⟨r0,r1,r2,_⟩:=b9.c3
 go_wp2_with fail
 refine bodyPost_ret (v:=.tuple #[.agg #[.int .i64 a,.int .i64 l.length,.slice A6 (s-a) c6],.int .i64 0]) (by simp[results,Tryz.results60,go_sem,r0,r1,r2]) rfl ?_;obtain⟨s',hs'⟩:∃s',s'=s:=⟨_,rfl⟩;have h1:=hsd.out;have h2:=HPT.out;have h3:=HPL2.out;have h4:=HI.out;rw[h2] at h3 h4;rw[h1] at h3 h4 ⊢;exact⟨A6,c6,by rw[h3],h4,x9,HFR.out⟩
theorem tundo_bad (T:Option Addr)(tc:Nat)(t:List Int)(a d:Int)(A:Option Addr)(c:Nat)(l:List Int)(w:World)(hl:IL w A c l)(hd:I64 d)(htl:t.length<=1000000)(hll:l.length<=1000000)(he:editErr t.length a d l≠0) :
 Calls Tryz.prog 60 #[.slice T t.length tc,.agg #[.int .i64 a,.int .i64 d,.slice A l.length c]] w (RetV (.tuple #[.agg #[.int .i64 0,.int .i64 0,.slice none 0 0],.int .i64 (editErr t.length a d l)]) w):=by
 obtain⟨B0,B2,E0⟩:=alloc2 w 102 #[.int .i64 a,.int .i64 d,.slice A l.length c] 102 #[.int .i64 0,.int .i64 0,.slice none 0 0];have HCK:=fun(w':World) (x:Ext w w')=>lh (tcheck_any T t.length tc a d A c l w' (hl.ext x) om om hd);generalize editErr t.length a d l=er at *;have hb:(er != 0)=true:=by simpa using he
 clear hl he;go_enter Tryz.func60,Tryz.ntmps60
 go_upto_region 1 with fail
 obtain⟨g1,hg1⟩:∃g,g=w.heap.size:=⟨_,rfl⟩;obtain⟨g2,hg2e⟩:∃g,g=w.heap.size+1:=⟨_,rfl⟩
 rw[<-hg2e] at B2 ⊢
 rw[<-hg1] at B0 ⊢;have hg2:w.heap.size<=g2:=om;clear hg1 hg2e;generalize (w.alloc (.cells #[.int .i64 a,.int .i64 d,.slice A l.length c] 102)).alloc (.cells #[.int .i64 0,.int .i64 0,.slice none 0 0] 102)=wa at *;obtain⟨z0,z1,z2,_⟩:=B0.c3
 go_upto_region 2 with(go_at_call 103;refine(HCK wa E0).out.mono ?_;rintro e w3 ⟨rfl,x3⟩)
 have B3:=B2.ext x3;have HX3:=lh (E0.trans x3);clear z0 z1 z2 B0 B2 E0 x3 HCK;obtain⟨y0,y1,y2,f0,f1,f2,_⟩:=B3.c3
 go_wp2_with fail
 change bodyPost _ _ _ _ _ (setEd w3 g2 0 0 none 0 0);have b9:=setEd_blk B3 0 0 none 0 0;have x9:=setEd_ext HX3.out hg2 0 0 none 0 0;generalize setEd w3 g2 0 0 none 0 0=w9 at *;obtain⟨r0,r1,r2,_⟩:=b9.c3;exact bodyPost_ret (v:=.tuple #[.agg #[.int .i64 0,.int .i64 0,.slice none 0 0],.int .i64 er]) (by simp[results,Tryz.results60,go_sem,r0,r1,r2]) rfl ⟨rfl,x9⟩
def RetUx (t:List Int)(a d:Int)(l:List Int)(er:Int)(w:World)(e:Ending)(w':World):Prop:=∃(a2 d2:Int) (A:Option Addr) (c:Nat) (l2:List Int),e=.returned (.tuple #[.agg #[.int .i64 a2,.int .i64 d2,.slice A l2.length c],.int .i64 er])/\IL w' A c l2/\Ext w w'/\Fr w A/\(er=0->a2=a/\d2=l.length/\l2=(t.take (a.toNat+d.toNat)).drop a.toNat)
theorem tundo_any (T:Option Addr)(tc:Nat)(t:List Int)(a d:Int)(A:Option Addr)(c:Nat)(l:List Int)(w:World)(hT:IL w T tc t)(hl:IL w A c l)(hd:I64 d)(htl:t.length<=1000000)(hll:l.length<=1000000) :
 Calls Tryz.prog 60 #[.slice T t.length tc,.agg #[.int .i64 a,.int .i64 d,.slice A l.length c]] w (RetUx t a d l (editErr t.length a d l) w):=by
 by_cases he:editErr t.length a d l=0
 ·obtain⟨f1,f2,_⟩:=editErr_ok he;obtain⟨a',rfl⟩:∃a':Nat,a=a':=⟨a.toNat,om⟩;obtain⟨d',rfl⟩:∃d':Nat,d=d':=⟨d.toNat,om⟩;exact(tundo_ok T tc t a' d' A c l w hT hl htl hll he).mono (fun e w' ⟨A2,c2,h1,h2,h3,h4⟩=>⟨a',l.length,A2,c2,_,by rw[he];exact h1,h2,h3,h4,fun _=>⟨rfl,rfl,by simp⟩⟩)
 ·exact(tundo_bad T tc t a d A c l w hl hd htl hll he).mono (fun e w' ⟨h1,h2⟩=>⟨0,0,none,0,[],h1,IL.nil _,h2,Fr.nil _,fun h=>absurd h he⟩)
end
end Go.Proofs.YtmocoldobnimfaaGreat
