/- Texts of this proof: UT UV UW UX UY UG UN UH. -/
import Derived.Test.YtmgpefenkilffaaGreatSW42
set_option linter.all false
set_option maxRecDepth 100000
set_option maxHeartbeats 16000000
namespace Go.Proofs.YtmgpefenkilffaaGreat
section
open Go.RowKit
attribute [local go_sem ↓] Go.wp_at_zero Go.wp_at_succ
def usS (rn:Bool)(s:Sp):Bool:=!rn || decide (s.1<55296) || decide (57343<s.2)
def usb (rn:Bool)(l:List Sp):Bool:=l.any (usS rn)
theorem UTz1 {P:Prop} (h:P:=by
 go_enter Tryz.func308,Tryz.ntmps308
 go_wp2_with fail
 go_ret
 exact⟨rfl,EE⟩):P:=h
theorem usableC_any (s:Sp)(rn:Bool)(zb:Nat)(w:World)(hb:w.cell? ⟨zb,0,none⟩=some (.bool rn)):Calls Tryz.prog 308 #[.agg #[.int .i64 s.1,.int .i64 s.2],.pointer (some ⟨zb,0,none⟩)] w (RetV (.bool (usS rn s)) w):=by
 have hb2:=(Ext.alloc w (.cells #[.int .i64 s.1,.int .i64 s.2] 81)).cell hb;have EE:=Ext.alloc w (.cells #[.int .i64 s.1,.int .i64 s.2] 81);obtain⟨lo,hi⟩:=s
 simp only at *
 clear hb;cases rn
 ·exact UTz1
 ·by_cases h1:lo<55296
  ·have e:usS true (lo,hi)=true:=by simp[usS,h1]
   rw[e];exact UTz1
  ·by_cases h2:57343<hi
   ·have e:usS true (lo,hi)=true:=by simp[usS,h2]
    rw[e];exact UTz1
   ·have e:usS true (lo,hi)=false:=by simp[usS,h1,h2]
    rw[e];exact UTz1
theorem usb_step {rn:Bool}{l:List Sp}{k:Nat}(hk:k<l.length)(h0:usb rn (l.take k)=false)(h:usS rn l[k]=false):usb rn (l.take (k+1))=false:=by
 unfold usb at *;rw[List.take_succ_eq_append_getElem hk,List.any_append,h0];simp only[List.any_cons,List.any_nil,Bool.or_false,Bool.false_or];exact h
theorem usb_hit {rn:Bool}{l:List Sp}{k:Nat}(hk:k<l.length)(h:usS rn l[k]=true):usb rn l=true:=by
 unfold usb;rw[List.any_eq_true];exact⟨l[k],List.getElem_mem hk,h⟩
theorem uindex_any (A:Option Addr)(c:Nat)(l:List Sp)(rn:Bool)(zb:Nat)(w:World)(hl:SL w A c l)(hb:w.cell? ⟨zb,0,none⟩=some (.bool rn)) :
 Calls Tryz.prog 333 #[.slice A l.length c,.func (Fn.func 308) #[] #[.pointer (some ⟨zb,0,none⟩)]] w fun e w'=>∃k:Int,e=.returned (.int .i64 k)/\(decide (0<=k)=usb rn l)/\Ext w w':=by
 obtain⟨a1,a2⟩:=hl.len;have HC:=fun(s:Sp) (w':World) (x:Ext w w')=>lh (usableC_any s rn zb w' (x.cell hb));clear hb;go_enter Tryz.func333,Tryz.ntmps333
 go_wp2
 go_loopw [8] (fun i wr=>∃k:Nat,k<=l.length/\i=.int .i64 k/\Hid (usb rn (l.take k)=false)/\Ext w wr) (fun i _=>l.length-(intOf i).toNat)
 case atStart=>exact⟨0,Nat.zero_le _,rfl,lh rfl,Ext.rfl' _⟩
 case round=>
  obtain⟨k,hk,rfl,ht,hext⟩:=hrel;by_cases hlt:k<l.length
  ·obtain⟨p1,o1,hA,g1,g2⟩:=(hl.ext hext).get hlt;have hA':=hA;subst hA';have hlt2:(k:Int)<l.length:=om;have HC1:=HC l[k] wr hext;by_cases hs:usS rn l[k]=true
   ·have hbad:=lh (usb_hit hlt hs);rw[hs] at HC1;generalize l[k]=y at *;clear hs ht
    go_wp2_with fail
    refine HC1.out.mono ?_;rintro e w1 ⟨rfl,hx1⟩
    go_wp2
    go_ret
    exact⟨_,rfl,by rw[hbad.out];simp,hext.trans hx1⟩
   ·have hs1:usS rn l[k]=false:=by simpa using hs
    have hs2:=lh (usb_step hlt ht.out hs1);rw[hs1] at HC1;generalize l[k]=y at *;clear hs ht hs1
    go_wp2_with fail
    refine HC1.out.mono ?_;rintro e w1 ⟨rfl,hx1⟩;have xf:=hext.trans hx1
    go_wp2
    go_roundw
    case rel=>exact⟨k+1,om,by go_num,hs2,xf⟩
    case measure=>simp[intOf];omega
  ·go_wp2
   go_ret
   have h1:=ht.out;rw[List.take_of_length_le om] at h1;exact⟨_,rfl,by rw[h1];simp,hext⟩
theorem ucontains_any (A:Option Addr)(c:Nat)(l:List Sp)(rn:Bool)(zb:Nat)(w:World)(hl:SL w A c l)(hb:w.cell? ⟨zb,0,none⟩=some (.bool rn)) :
 Calls Tryz.prog 307 #[.slice A l.length c,.func (Fn.func 308) #[] #[.pointer (some ⟨zb,0,none⟩)]] w (RetV (.bool (usb rn l)) w):=by
 have HX:=lh (uindex_any A c l rn zb w hl hb);generalize usb rn l=al at *;cases al
 ·go_enter Tryz.func307,Tryz.ntmps307
  go_wp2_with fail
  refine HX.out.mono ?_;rintro e w2 ⟨k,rfl,hk,x2⟩;have hk0:decide (0<=k)=false:=hk;clear hk
  go_wp2_with fail
  go_ret
  exact⟨rfl,x2⟩
 ·go_enter Tryz.func307,Tryz.ntmps307
  go_wp2_with fail
  refine HX.out.mono ?_;rintro e w2 ⟨k,rfl,hk,x2⟩;have hk0:decide (0<=k)=true:=hk;clear hk
  go_wp2_with fail
  go_ret
  exact⟨rfl,x2⟩
theorem usable_any (A:Option Addr)(c:Nat)(l:List Sp)(rn:Bool)(w:World)(hl:SL w A c l):Calls Tryz.prog 262 #[.slice A l.length c,.bool rn] w (RetV (.bool (usb rn l)) w):=by
 have B:=Blk.new w 4 #[.bool rn];have E:=Ext.alloc w (.cells #[.bool rn] 4);have HX:=lh (ucontains_any A c l rn w.heap.size _ (hl.ext E) (B.cell 0));generalize usb rn l=al at *;clear B hl;go_enter Tryz.func262,Tryz.ntmps262
 go_wp2_with fail
 refine HX.out.mono ?_;rintro e w2 ⟨rfl,x2⟩
 go_wp2_with fail
 go_ret
 exact⟨rfl,E.trans x2⟩
def sucL (G:List Ins)(rn:Bool)(i:Nat):List Nat:=match G[i]? with
 | none=>[]
 | some a=>if a.op=0 then[] else if a.op=3 then[a.x.toNat] else if a.op=2 then[a.x.toNat,a.y.toNat] else if a.op=1 then(if usb rn a.set=true then[i+1] else[]) else[i+1]
def RetSu (l:List Nat)(w:World)(e:Ending)(w':World):Prop:=∃A c,e=.returned (.slice A l.length c)/\OwnI w' w.heap.size 3 A c (natsI l)/\Ext w w'
theorem successors_any (gc:Nat)(A:Option Addr)(c:Nat)(hs:List Hin)(rn:Bool)(runes:Bool)(caps:Int)(hG:GOk runes caps (insL hs))(i:Nat)(hi:i<hs.length)(w:World)(hp:PL w A c hs)(c0:w.cell? ⟨gc,0,none⟩=some (.slice A hs.length c))(c1:w.cell? ⟨gc,1,none⟩=some (.bool rn)) :
 Calls Tryz.prog 205 #[.pointer (some ⟨gc,0,none⟩),.int .i64 i] w (RetSu (sucL (insL hs) rn i) w):=by
 obtain⟨ib,io,hA,o0,o1,o2,o3,o4⟩:=hp.get hi;have hcap:=hp.len;have hsl:=hp.sl _ (List.getElem_mem hi);have hn8:=hG.len;rw[insL_len] at hn8;have hok:InsOk runes caps (insL hs).length (hs[i]).ins:=by
  have h:=hG.ins i (by rw[insL_len];exact hi);rw[insL_getElem] at h;exact h
 have hpl:hs[i].op≠5:=by
  have h:=hG.plain i (by rw[insL_len];exact hi);rw[insL_getElem] at h;exact h
 have hsuc:sucL (insL hs) rn i=if hs[i].op=0 then[] else if hs[i].op=3 then[hs[i].x.toNat] else if hs[i].op=2 then[hs[i].x.toNat,hs[i].y.toNat] else if hs[i].op=1 then(if usb rn hs[i].l=true then[i+1] else[]) else[i+1]:=by
  unfold sucL;rw[insL_get hi]
  rfl
 rw[hsuc];rw[insL_len] at hok;have hinI:(i:Int)<hs.length:=om;have hin8:hs.length<=8192:=hn8.2;generalize hs[i]=h at *;generalize hs.length=n at *;obtain⟨hop,hx,hy,hn,hhA,hc,hl⟩:=h;simp only[Hin.ins,InsOk] at hok
 simp only at o0 o1 o2 o3 o4 hpl hsl ⊢
 obtain⟨_,hy0,hx0,_,hk⟩:=hok;have HUS:=fun(w':World) (xx:Ext w w')=>lh (usable_any hhA hc hl rn w' (hsl.ext xx));have BI:=Blk.new w 129 #[.int .i64 hop,.int .i64 hx,.int .i64 hy,.int .i64 hn,.slice hhA hl.length hc];have EI:=Ext.alloc w (.cells #[.int .i64 hop,.int .i64 hx,.int .i64 hy,.int .i64 hn,.slice hhA hl.length hc] 129);have hA':=hA;subst hA';have hlc:=hsl.len;clear hA hp hG hsuc hsl;have fin0:∀(w':World) (x:Ext w w'),RetSu [] w (.returned (.slice none 0 0)) w':=fun w' x=>⟨none,0,rfl,OwnS.nil _ _ _ _,x⟩;have fin1:∀(a:Nat) (w':World) (x:Ext w w') (v:Int) (g:Nat),v=a->g=w'.heap.size->RetSu [a] w (.returned (.slice (some ⟨g,0,none⟩) 1 1)) (w'.alloc (.cells #[.int .i64 v] 3)):=fun a w' x v g hv hg=>by
  subst hv;subst hg;refine⟨some ⟨w'.heap.size,0,none⟩,1,rfl,?_,x.trans (Ext.alloc _ _)⟩;have:=OwnS.of_blk (base:=w.heap.size) (size:=1) (n:=1) (c:=1) (Blk.new w' 3 #[.int .i64 (a:Int)]) x.size rfl (Nat.le_refl _) um;exact this
 have fin2:∀(a b:Nat) (w':World) (x:Ext w w') (u v:Int) (g:Nat),u=a->v=b->g=w'.heap.size->RetSu [a,b] w (.returned (.slice (some ⟨g,0,none⟩) 2 2)) (w'.alloc (.cells #[.int .i64 u,.int .i64 v] 3)):=fun a b w' x u v g hu hv hg=>by
  subst hu hv hg;refine⟨some ⟨w'.heap.size,0,none⟩,2,rfl,?_,x.trans (Ext.alloc _ _)⟩;have:=OwnS.of_blk (base:=w.heap.size) (size:=1) (n:=2) (c:=2) (Blk.new w' 3 #[.int .i64 (a:Int),.int .i64 (b:Int)]) x.size rfl (Nat.le_refl _) um;exact this
 have hwi:IntKind.i64.wrap ((i:Int)+1)=(i:Int)+1:=wj;have HFIN:=lh (And.intro fin0 (And.intro fin1 fin2));have HEI:=lh EI;clear fin0 fin1 fin2;have hcs:hop=0\/hop=3\/hop=2\/hop=1\/hop=4:=om;rcases hcs with rfl|rfl|rfl|rfl|rfl
 ·simp only[if_true];clear hk hpl hx0 hy0;go_enter Tryz.func205,Tryz.ntmps205
  go_wp2_with fail
  go_ret
  exact HFIN.out.1 _ HEI.out
 ·have hxx:0<=hx:=om;obtain⟨xn,rfl⟩:∃xn:Nat,hx=xn:=⟨hx.toNat,om⟩;have e:(if(3:Int)=0 then([]:List Nat) else if(3:Int)=3 then[(xn:Int).toNat] else if(3:Int)=2 then[(xn:Int).toNat,hy.toNat] else if(3:Int)=1 then(if usb rn hl=true then[i+1] else[]) else[i+1])=[xn]:=by simp
  rw[e];clear hk hpl hx0 hy0 e;go_enter Tryz.func205,Tryz.ntmps205
  go_wp2_with fail
  go_ret
  exact HFIN.out.2.1 xn _ HEI.out _ _ rfl si
 ·obtain⟨xn,rfl⟩:∃xn:Nat,hx=xn:=⟨hx.toNat,om⟩;obtain⟨yn,rfl⟩:∃yn:Nat,hy=yn:=⟨hy.toNat,om⟩;have e:(if(2:Int)=0 then([]:List Nat) else if(2:Int)=3 then[(xn:Int).toNat] else if(2:Int)=2 then[(xn:Int).toNat,(yn:Int).toNat] else if(2:Int)=1 then(if usb rn hl=true then[i+1] else[]) else[i+1])=[xn,yn]:=by simp
  rw[e];clear hk hpl hx0 hy0 e;go_enter Tryz.func205,Tryz.ntmps205
  go_wp2_with fail
  go_ret
  exact HFIN.out.2.2 xn yn _ HEI.out _ _ _ rfl rfl si
 ·have e:(if(1:Int)=0 then([]:List Nat) else if(1:Int)=3 then[hx.toNat] else if(1:Int)=2 then[hx.toNat,hy.toNat] else if(1:Int)=1 then(if usb rn hl=true then[i+1] else[]) else[i+1])=(if usb rn hl=true then[i+1] else[]):=by simp
  rw[e];clear hk hpl hx0 hy0 e;obtain⟨ub,hub⟩:∃ub,ub=usb rn hl:=⟨_,rfl⟩
  rw[<-hub] at HUS ⊢;clear hub;have c1':=EI.cell c1;have HB:=lh BI;cases ub
  all_goals
   go_enter Tryz.func205,Tryz.ntmps205
   go_upto_region 10 with fail
   generalize w.alloc (.cells #[.int .i64 1,.int .i64 hx,.int .i64 hy,.int .i64 hn,.slice hhA hl.length hc] 129)=w1 at *;have b4:w1.cell? ⟨w.heap.size,4,none⟩=some (.slice hhA hl.length hc):=HB.out.cell 4;have j0:=kc0 b4;have j1:=kc0 c1';refine Xr.start [] kr ?_;refine Xtk 0 ?_
   iterate 5(refine Xtn ?_)
   refine Xcl 6 fun w4 hE4 hK4 K hKK=>?_;go_simp;refine(HUS w4 (HEI.out.trans hE4)).out.mono ?_;rintro en w5 ⟨rfl,x5⟩;refine hKK _ _ x5 ?_;clear hKK;refine ptm ?_;refine Xtk 7 ?_;refine Xdn fun w6 hE6 hK6=>?_;have X6:=lh (((HEI.out.trans hE4).trans x5).trans hE6);clear hE4 hK4 x5 hE6 hK6 j0 j1
   go_wp2_with fail
   go_ret
   first|exact HFIN.out.1 _ X6.out|exact HFIN.out.2.1 (i+1) _ X6.out _ _ (by push_cast;rfl) si
 ·have e:(if(4:Int)=0 then([]:List Nat) else if(4:Int)=3 then[hx.toNat] else if(4:Int)=2 then[hx.toNat,hy.toNat] else if(4:Int)=1 then(if usb rn hl=true then[i+1] else[]) else[i+1])=[i+1]:=by simp
  rw[e];clear hk hpl hx0 hy0 e;go_enter Tryz.func205,Tryz.ntmps205
  go_wp2_with fail
  go_ret
  exact HFIN.out.2.1 (i+1) _ HEI.out _ _ (by push_cast;rfl) si
end
section
open Go.RowKit
theorem usb_iff {rn:Bool}{l:List Sp}:usb rn l=true<->∃s∈l,rn=false\/s.1<55296\/57343<s.2:=by
 unfold usb usS;rw[List.any_eq_true];constructor
 ·rintro⟨s,hs,h⟩;refine⟨s,hs,?_⟩;cases rn
  ·exact .inl rfl
  ·right;simpa using h
 ·rintro⟨s,hs,h⟩;refine⟨s,hs,?_⟩;cases rn
  ·rfl
  ·simpa using h
theorem suc_iff {runes:Bool}{caps:Int}{G:List Ins}(hG:GOk runes caps G){rn:Bool}{i j:Nat}:j∈sucL G rn i<->sucE G rn i j:=by
 unfold sucL sucE
 cases hi:G[i]? with
 | none=>simp
 | some a=>
  have hlt:=(List.getElem?_eq_some_iff.1 hi).1;have he:=(List.getElem?_eq_some_iff.1 hi).2;have hok:=hG.ins i hlt;have hpl:=hG.plain i hlt;rw[he] at hok hpl;obtain⟨_,_,_,_,hk⟩:=hok;simp only[Option.some.injEq,exists_eq_left'];have hcs:a.op=0\/a.op=1\/a.op=2\/a.op=3\/a.op=4:=om;rcases hcs with h|h|h|h|h
  ·simp[h]
  ·simp only[h];by_cases hu:usb rn a.set=true
   ·have:=usb_iff.1 hu;simp[hu,this]
   ·have:¬∃s∈a.set,rn=false\/s.1<55296\/57343<s.2:=fun h=>hu (usb_iff.2 h);simp[hu,this]
  ·simp[h]
  ·simp[h]
  ·simp[h]
theorem sucE_lt {runes:Bool}{caps:Int}{G:List Ins}(hG:GOk runes caps G){rn:Bool}{i j:Nat}(h:sucE G rn i j):i<G.length/\j<G.length:=by
 obtain⟨a,hi,h⟩:=h;have hlt:=(List.getElem?_eq_some_iff.1 hi).1;have he:=(List.getElem?_eq_some_iff.1 hi).2;refine⟨hlt,?_⟩;have hok:=hG.ins i hlt;rw[he] at hok;obtain⟨_,_,_,_,hk⟩:=hok;have hlast:a.op=1\/a.op=4->i+1<G.length:=fun ho=>by
  refine Classical.byContradiction fun hn=>?_;have h1:i=G.length-1:=om;subst h1;have:=hG.last hlt;rw[he] at this;omega
 rcases h with⟨h2,h3|h3⟩|⟨h2,h3⟩|⟨h2,h3⟩|⟨h2,_,h3⟩
 ·omega
 ·omega
 ·omega
 ·have:=hlast (.inr h2);omega
 ·have:=hlast (.inl h2);omega
def flsB (ls:List Bool):Nat:=ls.countP (fun b=>!b)
theorem flsB_set {ls:List Bool}{i:Nat}(h:ls[i]? = some false):flsB (ls.set i true)+1=flsB ls:=by
 unfold flsB;induction ls generalizing i with
 | nil=>simp at h
 | cons b t ih=>
  cases i with
  | zero=>simp at h;subst h;simp
  | succ i=>
   rw[List.getElem?_cons_succ] at h;have:=ih h;rw[List.set_cons_succ,List.countP_cons,List.countP_cons];omega
structure LdI (G:List Ins)(rn:Bool)(ls:List Bool)(T:List Int):Prop where
 ln:ls.length=G.length
 so:∀i,ls[i]? = some true->leadP G rn i
 tt:∀v∈T,∃j:Nat,v=j/\j<G.length/\(isD G j=true\/ls[j]? = some true)
 co:∀j,j<G.length->(isD G j=true\/ls[j]? = some true)->(j:Int)∈T\/∀i,sucE G rn i j->ls[i]? = some true
 sz:T.length+flsB ls<=2*G.length
structure LdJ (G:List Ins)(rn:Bool)(ls:List Bool)(T:List Int)(j:Nat)(row:List Int)(k:Nat):Prop where
 ln:ls.length=G.length
 so:∀i,ls[i]? = some true->leadP G rn i
 tt:∀v∈T,∃j:Nat,v=j/\j<G.length/\(isD G j=true\/ls[j]? = some true)
 co:∀j',j'<G.length->(isD G j'=true\/ls[j']? = some true)->(j':Int)∈T\/(∀i,sucE G rn i j'->ls[i]? = some true)\/j'=j
 sz:T.length+flsB ls<=2*G.length
 jd:isD G j=true\/ls[j]? = some true
 pr:∀v∈row.take k,∃i:Nat,v=i/\ls[i]? = some true
theorem LdI.pop {G:List Ins}{rn:Bool}{ls:List Bool}{T:List Int}{j:Nat}(h:LdI G rn ls (T++[(j:Int)]))(row:List Int):j<G.length/\LdJ G rn ls T j row 0:=by
 obtain⟨ln,so,tt,co,sz⟩:=h;obtain⟨j2,h1,h2,h3⟩:=tt j si;have:j=j2:=om;subst this;refine⟨h2,ln,so,fun v hv=>tt v (List.mem_append_left _ hv),fun j' hj' hd=>?_,by rw[List.length_append] at sz;simp only[List.length_cons,List.length_nil] at sz;omega,h3,by simp⟩;rcases co j' hj' hd with h|h
 ·rcases List.mem_append.1 h with h|h
  ·exact .inl h
  ·have:(j':Int)=j:=List.mem_singleton.1 h;exact .inr (.inr om)
 ·exact .inr (.inl h)
theorem LdJ.skip {G:List Ins}{rn:Bool}{ls:List Bool}{T:List Int}{j:Nat}{row:List Int}{k:Nat}(h:LdJ G rn ls T j row k)(hk:k<row.length){i:Nat}(hi:row[k]=(i:Int))(hl:ls[i]? = some true):LdJ G rn ls T j row (k+1):=by
 obtain⟨ln,so,tt,co,sz,jd,pr⟩:=h;refine⟨ln,so,tt,co,sz,jd,fun v hv=>?_⟩;rw[List.take_succ_eq_append_getElem hk] at hv;rcases List.mem_append.1 hv with hv|hv
 ·exact pr v hv
 ·exact⟨i,(List.mem_singleton.1 hv).trans hi,hl⟩
theorem LdJ.mark {G:List Ins}{rn:Bool}{ls:List Bool}{T:List Int}{j:Nat}{row:List Int}{k:Nat}(h:LdJ G rn ls T j row k)(hk:k<row.length){i:Nat}(hi:row[k]=(i:Int))(hl:ls[i]? = some false)(hE:sucE G rn i j):LdJ G rn (ls.set i true) (T++[(i:Int)]) j row (k+1):=by
 obtain⟨ln,so,tt,co,sz,jd,pr⟩:=h;have hlt:i<ls.length:=(List.getElem?_eq_some_iff.1 hl).1;have hold:∀{y:Nat},ls[y]? = some true->(ls.set i true)[y]? = some true:=fun{y} hy=>by
  rw[List.getElem?_set];by_cases e:i=y
  ·rw[if_pos e,if_pos om]
  ·rw[if_neg e];exact hy
 have hnew:∀{y:Nat},(ls.set i true)[y]? = some true->ls[y]? = some true\/y=i:=fun{y} hy=>by
  rw[List.getElem?_set] at hy;by_cases e:i=y
  ·exact .inr e.symm
  ·rw[if_neg e] at hy;exact .inl hy
 have hself:(ls.set i true)[i]? = some true:=by rw[List.getElem?_set,if_pos rfl,if_pos hlt]
 have hip:leadP G rn i:=by
  rcases jd with h|h
  ·exact⟨j,h,.one hE⟩
  ·obtain⟨d,hd,hr⟩:=so j h;exact⟨d,hd,.cons hE hr⟩
 have hfl:=flsB_set hl;refine⟨by rw[List.length_set];exact ln,fun y hy=>?_,fun v hv=>?_,fun j' hj' hd=>?_,by rw[List.length_append];simp only[List.length_cons,List.length_nil];omega,jd.imp id hold,fun v hv=>?_⟩
 ·rcases hnew hy with h|h
  ·exact so y h
  ·rw[h];exact hip
 ·rcases List.mem_append.1 hv with hv|hv
  ·obtain⟨j2,h1,h2,h3⟩:=tt v hv;exact⟨j2,h1,h2,h3.imp id hold⟩
  ·exact⟨i,List.mem_singleton.1 hv,om,.inr hself⟩
 ·by_cases e:j'=i
  ·exact .inl (List.mem_append_right _ (by rw[e];simp))
  ·have hd2:isD G j'=true\/ls[j']? = some true:=by
    rcases hd with h|h
    ·exact .inl h
    ·rcases hnew h with h|h
     ·exact .inr h
     ·exact absurd h e
   rcases co j' hj' hd2 with h|h|h
   ·exact .inl (List.mem_append_left _ h)
   ·exact .inr (.inl (fun y hy=>hold (h y hy)))
   ·exact .inr (.inr h)
 ·rw[List.take_succ_eq_append_getElem hk] at hv;rcases List.mem_append.1 hv with hv|hv
  ·obtain⟨y,h1,h2⟩:=pr v hv;exact⟨y,h1,hold h2⟩
  ·exact⟨i,(List.mem_singleton.1 hv).trans hi,hself⟩
theorem LdJ.fin {G:List Ins}{rn:Bool}{ls:List Bool}{T:List Int}{j:Nat}{row:List Int}(h:LdJ G rn ls T j row row.length)(hrow:∀i:Nat,sucE G rn i j->(i:Int)∈row):LdI G rn ls T:=by
 obtain⟨ln,so,tt,co,sz,jd,pr⟩:=h;rw[List.take_length] at pr;refine⟨ln,so,tt,fun j' hj' hd=>?_,sz⟩;rcases co j' hj' hd with h|h|h
 ·exact .inl h
 ·exact .inr h
 ·right
  intro i hi;rw[h] at hi;obtain⟨y,h1,h2⟩:=pr i (hrow i hi);have:i=y:=om;rw[this];exact h2
theorem LdI.done {runes:Bool}{caps:Int}{G:List Ins}(hG:GOk runes caps G){rn:Bool}{ls:List Bool}(h:LdI G rn ls []):∀i,i<G.length->ls[i]? = some (leadG G rn i):=by
 obtain⟨ln,so,tt,co,sz⟩:=h;have key:∀{i d:Nat},Rch (sucE G rn) i d->isD G d=true->ls[i]? = some true:=fun{i d} hr hd=>by
  induction hr with
  | one hE=>
   rcases co _ (sucE_lt hG hE).2 (.inl hd) with h|h
   ·cases h
   ·exact h _ hE
  | cons hE _ ih=>
   rcases co _ (sucE_lt hG hE).2 (.inr (ih hd)) with h|h
   ·cases h
   ·exact h _ hE
 intro i hi;have hlt:i<ls.length:=om;rw[List.getElem?_eq_getElem hlt]
 congr 1
 unfold leadG
 cases hb:ls[i] with
 | true=>
  have:=so i (by rw[List.getElem?_eq_getElem hlt,hb]);simp[this]
 | false=>
  have:¬leadP G rn i:=fun⟨d,hd,hr⟩=>by
   have:=key hr hd;rw[List.getElem?_eq_getElem hlt,hb] at this;cases this
  simp[this]
end
section
open Go.RowKit
def bolC (ls:List Bool):Array Value:=(ls.map Value.bool).toArray
structure Lw where
 gc:Nat
 gB:Nat
 gl:Nat
 A:Option Addr
 c:Nat
 hs:List Hin
 rn:Bool
 cA:Option Addr
 cn:Nat
 cc:Nat
 w0:World
structure LwM (P:Lw)(w:World)(rows:List Hz)(TA:Option Addr)(Tc:Nat)(T:List Int)(ls:List Bool):Prop where
 bc:Blk w P.gc 136 #[.slice P.A P.hs.length P.c,.bool P.rn,.slice P.cA P.cn P.cc,.slice (some ⟨P.gl,0,none⟩) P.hs.length P.hs.length]
 bl:Blk w P.gl 4 (bolC ls)
 bf:BfM w P.w0.heap.size P.gB rows
 tw:OwnI w P.w0.heap.size 3 TA Tc T
 ap:∀z∈rows,∀b,z.A.map (·.block)=some b->TA.map (·.block)≠some b
 rl:rows.length=P.hs.length
 ll:ls.length=P.hs.length
 kp:KpP (·=P.gc) P.w0 w
 l0:P.w0.heap.size<=P.gl
variable {P:Lw} {w wa w8 w9 w':World} {rows:List Hz} {TA:Option Addr} {Tc:Nat} {T:List Int} {ls:List Bool}
theorem LwM.ext (h:LwM P w rows TA Tc T ls)(x:Ext w w'):LwM P w' rows TA Tc T ls:=⟨h.bc.ext x,h.bl.ext x,h.bf.ext x,OwnS.ext h.tw x,h.ap,h.rl,h.ll,h.kp.trans (KpP.of_ext x),h.l0⟩
theorem LwM.put (h:LwM P w rows TA Tc T ls){t:Nat}(ht:t<rows.length){x:Int}{A8:Option Addr}{c8:Nat}(xa:Ext w wa)(ho:OwnI w8 P.w0.heap.size 3 A8 c8 (rows[t].l++[x]))(hg:wa.grownBy w8 (rows[t].A.map (·.block)))
 (hat:A8.map (·.block)=rows[t].A.map (·.block)\/A8.map (·.block)=some wa.heap.size) (hgB:P.w0.heap.size<=P.gB):LwM P (w8.setCell ⟨P.gB,t,none⟩ (.slice A8 (rows[t].l++[x]).length c8)) (rows.set t ⟨A8,c8,rows[t].l++[x]⟩) TA Tc T ls:=by
 have kg:=KpP.of_grown hg;have hm:=List.getElem_mem ht;have ow:=OwnS.ext (h.bf.own _ hm) xa;have bB:=h.bf.blk.ext xa;have bc:=h.bc.ext xa;have bl:=h.bl.ext xa;have n1:=own_blk ow bc de;have n2:=own_blk ow bl de;have n3:=blk_blk bc bB de;have n4:=blk_blk bl bB de;have tw:=OwnS.kp (OwnS.ext h.tw xa) kg (fun b hb e=>h.ap _ hm b e hb);have bB8:=kg.blk bB (own_blk ow bB de);refine⟨(kg.blk bc n1).far n3 _,(kg.blk bl n2).far n4 _,h.bf.put ht rfl xa ho hg hat (Ext.rfl' _),OwnS.far tw (own_blk tw bB8 de) _,fun z hz b hb=>?_,by rw[List.length_set];exact h.rl,h.ll,?_,h.l0⟩
 ·obtain⟨j,hj,e⟩:=List.getElem_of_mem hz;rw[List.length_set] at hj;rw[List.getElem_set] at e;by_cases hjt:t=j
  ·rw[if_pos hjt] at e;subst e;rcases hat with e2|e2
   ·exact h.ap _ hm b (by rw[<-e2];exact hb)
   ·rw[e2] at hb;injection hb with hb
    intro e3;have:=(OwnS.blt (OwnS.ext h.tw xa) e3).1;omega
  ·rw[if_neg hjt] at e;subst e;exact h.ap _ (List.getElem_mem hj) b hb
 ·exact(((h.kp.trans (KpP.of_ext xa)).chain kg (fun i hi=>.inr (OwnS.row ow i hi)))).chain (KpP.set (p:=(·=P.gB)) (x:=⟨P.gB,t,none⟩) (KpP.refl _ _) (.inl rfl) _) (fun i hi=>.inr (by rw[show i=P.gB from hi];exact hgB))
theorem LwM.push (h:LwM P w rows TA Tc T ls){x:Int}{A8:Option Addr}{c8:Nat}(xa:Ext w wa)(ho:OwnI w8 P.w0.heap.size 3 A8 c8 (T++[x]))(hg:wa.grownBy w8 (TA.map (·.block)))
 (hat:A8.map (·.block)=TA.map (·.block)\/A8.map (·.block)=some wa.heap.size):LwM P w8 rows A8 c8 (T++[x]) ls:=by
 have kg:=KpP.of_grown hg;have ow:=OwnS.ext h.tw xa;have bc:=h.bc.ext xa;have bl:=h.bl.ext xa;have bf:=h.bf.ext xa;refine⟨kg.blk bc (own_blk ow bc de),kg.blk bl (own_blk ow bl de),⟨kg.blk bf.blk (own_blk ow bf.blk de),fun z hz=>OwnS.kp (bf.own z hz) kg (fun b hb e=>h.ap z hz b hb e),bf.ap⟩,ho,fun z hz b hb=>?_,h.rl,h.ll,(h.kp.trans (KpP.of_ext xa)).chain kg (fun i hi=>.inr (OwnS.row ow i hi)),h.l0⟩;rcases hat with e|e
 ·rw[e];exact h.ap z hz b hb
 ·rw[e];intro e2;injection e2 with e2
  have:=(OwnS.blt (bf.own z hz) hb).1;omega
theorem LwM.pop {v:Int}(h:LwM P w rows TA Tc (T++[v]) ls):LwM P w rows TA Tc T ls:=by
 refine⟨h.bc,h.bl,h.bf,?_,h.ap,h.rl,h.ll,h.kp,h.l0⟩;have h1:OwnS w P.w0.heap.size 3 1 TA (T++[v]).length Tc ((T++[v]).map (Value.int .i64)):=h.tw
 show OwnS w P.w0.heap.size 3 1 TA T.length Tc (T.map (Value.int .i64))
 rcases OwnS.form h1 with⟨_,h0,_⟩|⟨g,cur,rfl,hg,hh,hnc,hcm,hcs,ht⟩
 ·rw[List.length_append] at h0;simp at h0
 ·rw[List.length_append] at hnc ht;simp only[List.length_cons,List.length_nil] at hnc ht;have k:=OwnS.of_blk (n:=T.length) (c:=Tc) (size:=1) (w:=w) (e:=3) (base:=P.w0.heap.size) hh hg hcs om hcm;have e2:cur.toList.take (T.length*1)=T.map (Value.int .i64):=by
   have h5:=congrArg (List.take T.length) ht;rw[Nat.mul_one] at h5 ⊢;rw[List.take_take,Nat.min_eq_left om,List.map_append,List.take_append_of_le_length si] at h5;rw[h5];exact List.take_of_length_le si
  rw[e2] at k;exact k
theorem bolC_set (ls:List Bool)(i:Nat)(b:Bool):(bolC ls).setIfInBounds i (.bool b)=bolC (ls.set i b):=by simp[bolC]
theorem LwM.mark (h:LwM P w rows TA Tc T ls)(i:Nat):LwM P (w.setCell ⟨P.gl,i,none⟩ (.bool true)) rows TA Tc T (ls.set i true):=by
 have k:KpP (·=P.gl) w (w.setCell ⟨P.gl,i,none⟩ (.bool true)):=KpP.set (p:=(·=P.gl)) (x:=⟨P.gl,i,none⟩) (KpP.refl _ _) (.inl rfl) _;refine⟨k.blk h.bc (blk_blk h.bc h.bl de),?_,h.bf.kp k (fun b hb cur T hh=>?_),OwnS.kp h.tw k (fun b hb e=>own_blk h.tw h.bl de (by rw[hb];exact congrArg some e)),h.ap,h.rl,by rw[List.length_set];exact h.ll,h.kp.chain k (fun j hj=>.inr (by rw[show j=P.gl from hj];exact h.l0)),h.l0⟩
 ·have:=h.bl.set i (.bool true);rw[bolC_set] at this;exact this
 ·have hb':b=P.gl:=hb;subst hb';have hbl:=h.bl;unfold Blk at hbl;rw[hh] at hbl;injection hbl with hbl
  injection hbl with _ hbl
  subst hbl;exact⟨by decide,by decide⟩
structure BefO (G:List Ins)(rn:Bool)(rows:List Hz)(i k:Nat):Prop where
 me:∀j (hj:j<rows.length),∀v:Int,v∈rows[j].l<->∃y:Nat,v=y/\((y<i/\j∈sucL G rn y)\/(y=i/\j∈(sucL G rn i).take k))
 le:∀z∈rows,z.l.length<=2*i+k
theorem BefO.start (G:List Ins)(rn:Bool)(n:Nat):BefO G rn (List.replicate n nilZ) 0 0:=by
 refine⟨fun j hj v=>?_,fun z hz=>by rw[(List.mem_replicate.1 hz).2];simp[nilZ]⟩;simp[nilZ]
theorem sucL_len (G:List Ins)(rn:Bool)(i:Nat):(sucL G rn i).length<=2:=by
 unfold sucL
 split
 ·simp
 ·repeat(first|split|simp)
theorem BefO.row {G:List Ins}{rn:Bool}{rows:List Hz}{i:Nat}(h:BefO G rn rows i (sucL G rn i).length):BefO G rn rows (i+1) 0:=by
 have hl:=sucL_len G rn i;refine⟨fun j hj v=>?_,fun z hz=>by have:=h.le z hz;omega⟩;rw[h.me j hj v,List.take_length];constructor
 ·rintro⟨y,h1,h2⟩;refine⟨y,h1,.inl ?_⟩;rcases h2 with⟨h2,h3⟩|⟨h2,h3⟩
  ·exact⟨om,h3⟩
  ·rw[h2];exact⟨om,h3⟩
 ·rintro⟨y,h1,h2⟩;refine⟨y,h1,?_⟩;rcases h2 with⟨h2,h3⟩|⟨h2,h3⟩
  ·by_cases e:y=i
   ·rw[e] at h3;exact .inr ⟨e,h3⟩
   ·exact .inl ⟨om,h3⟩
  ·simp at h3
theorem BefO.put {G:List Ins}{rn:Bool}{rows:List Hz}{i k:Nat}(h:BefO G rn rows i k)(hk:k<(sucL G rn i).length){t:Nat}(ht:t<rows.length)(he:(sucL G rn i)[k]=t)(A:Option Addr)(c:Nat):BefO G rn (rows.set t ⟨A,c,rows[t].l++[(i:Int)]⟩) i (k+1):=by
 have htk:(sucL G rn i).take (k+1)=(sucL G rn i).take k++[t]:=by rw[List.take_succ_eq_append_getElem hk,he]
 refine⟨fun j hj v=>?_,fun z hz=>?_⟩
 ·rw[List.length_set] at hj;rw[htk];simp only[List.getElem_set];by_cases e:t=j
  ·subst e;simp only[if_true];rw[List.mem_append,h.me t ht v];constructor
   ·rintro(⟨y,h1,h2⟩|h1)
    ·refine⟨y,h1,h2.imp id (fun h=>⟨h.1,List.mem_append_left _ h.2⟩)⟩
    ·exact⟨i,List.mem_singleton.1 h1,.inr ⟨rfl,by simp⟩⟩
   ·rintro⟨y,h1,h2⟩;rcases h2 with h2|⟨h2,h3⟩
    ·exact .inl ⟨y,h1,.inl h2⟩
    ·right;rw[h1,h2];simp
  ·rw[if_neg e,h.me j hj v];constructor
   ·rintro⟨y,h1,h2⟩;exact⟨y,h1,h2.imp id (fun h=>⟨h.1,List.mem_append_left _ h.2⟩)⟩
   ·rintro⟨y,h1,h2⟩;refine⟨y,h1,h2.imp id (fun h=>⟨h.1,?_⟩)⟩;rcases List.mem_append.1 h.2 with h3|h3
    ·exact h3
    ·exact absurd (List.mem_singleton.1 h3).symm e
 ·obtain⟨j,hj,e⟩:=List.getElem_of_mem hz;rw[List.length_set] at hj;rw[List.getElem_set] at e;by_cases hjt:t=j
  ·rw[if_pos hjt] at e;subst e;have:=h.le _ (List.getElem_mem ht);rw[List.length_append];simp only[List.length_cons,List.length_nil];omega
  ·rw[if_neg hjt] at e;subst e;have:=h.le _ (List.getElem_mem hj);omega
end
section
open Go.RowKit
attribute [local go_sem ↓] Go.wp_at_zero Go.wp_at_succ
theorem mkRowsU (n:Nat)(h:n<=1000000)(W:World):(Instr.makeSlice 49 (.int .i64 (n:Int)) (.int .i64 (n:Int))).run Tryz.prog W=.ok (.slice (some ⟨W.heap.size,0,none⟩) n n) (W.alloc (.cells (Array.replicate n (.slice none 0 0)) 22)):=by
 have hi:(Tryz.prog.info? 22).map (fun i=>(i.zero,i.size,i.bytes))=some (some (.slice none 0 0),1,24):=by kernel_rfl
 obtain⟨i0,hi0,hz0,hz1,hz2⟩:=info_parts hi;have:=run_make (P:=Tryz.prog) W 49 22 i0 (.slice none 0 0) Tryz.underlying49 hi0 hz0 .i64 .i64 n n om (Int.le_refl _) (by rw[hz2];omega) om;rw[this,hz1];simp only[Int.toNat_natCast,Value.cells];rw[madeCells_one]
 simp
theorem OwnS.downU {w:World}{b0 b1 e size n c:Nat}{A:Option Addr}{xs:List Value}(h:OwnS w b1 e size A n c xs)(hb:b0<=b1):OwnS w b0 e size A n c xs:=by
 refine⟨h.1,?_⟩;rcases h.2 with h|⟨g,cap,cur,h1,h2,h3⟩
 ·exact Or.inl h
 ·exact Or.inr ⟨g,cap,cur,h1,Nat.le_trans hb h2,h3⟩
theorem BefO.put' {G:List Ins}{rn:Bool}{rows:List Hz}{i k t:Nat}{SL:List Nat}(h:BefO G rn rows i k)(hS:SL=sucL G rn i)(hk:k<SL.length)(ht:t<rows.length)(he:SL[k]=t)(A:Option Addr)(c:Nat):BefO G rn (rows.set t ⟨A,c,rows[t].l++[(i:Int)]⟩) i (k+1):=by
 subst hS;exact h.put hk ht he A c
def RetLd (gc:Nat)(A:Option Addr)(c:Nat)(hs:List Hin)(rn:Bool)(cA:Option Addr)(cn cc:Nat)(w:World)(e:Ending)(w':World):Prop:=e=.returned (.tuple #[])/\∃gl ls,w.heap.size<=gl/\Blk w' gc 136 #[.slice A hs.length c,.bool rn,.slice cA cn cc,.slice (some ⟨gl,0,none⟩) hs.length hs.length]/\
 Blk w' gl 4 (bolC ls)/\ls.length=hs.length/\(∀i,i<hs.length->ls[i]? = some (leadG (insL hs) rn i))/\KpP (·=gc) w w'
theorem lead_any3 (gc:Nat)(A:Option Addr)(c:Nat)(hs:List Hin)(rn:Bool)(cA:Option Addr)(cn cc:Nat)(runes:Bool)(caps:Int)(hG:GOk runes caps (insL hs))(w:World)(hb:Blk w gc 136 #[.slice A hs.length c,.bool rn,.slice cA cn cc,.slice none 0 0])
 (hP:∀w',KpP (·=gc) w w'->PL w' A c hs):Calls Tryz.prog 134 #[.pointer (some ⟨gc,0,none⟩)] w (RetLd gc A c hs rn cA cn cc w):=by
 have hn8:=hG.len;rw[insL_len] at hn8;have hcap:=(hP w (KpP.refl _ _)).len;obtain⟨iI,jI0,jI1,jI2,jI3⟩:=info_parts infoNk;have c0:w.cell? ⟨gc,0,none⟩=some (.slice A hs.length c):=hb.cell 0;have hmr:=mkRowsU hs.length om;have hmb:=mkBools hs.length om;have E1:=Ext.alloc w (.cells (Array.replicate hs.length (.slice none 0 0)) 22);have B1:=Blk.new w 22 (Array.replicate hs.length (.slice none 0 0));have HB:=lh hb;have HG:=lh hG;have HP:=lh hP;clear hb hG hP;go_enter Tryz.func134,Tryz.ntmps134
 go_upto_region 1 with fail
 obtain⟨gB,hgB⟩:∃g,g=w.heap.size:=⟨_,rfl⟩;have hgB0:w.heap.size<=gB:=om
 rw[<-hgB] at B1 ⊢;clear hgB;generalize w.alloc (.cells (Array.replicate hs.length (.slice none 0 0)) 22)=w1 at *;have bc1:=HB.out.ext E1;have E2:=Ext.alloc w1 (.cells (Array.replicate hs.length (.bool false)) 4);have B2:=Blk.new w1 4 (Array.replicate hs.length (.bool false));have c0':=E1.cell c0;have bc2:=bc1.ext E2;have c3:(w1.alloc (.cells (Array.replicate hs.length (.bool false)) 4)).cell? ⟨gc,3,none⟩=some (.slice none 0 0):=bc2.cell 3;have f3:=bc2.frz 3
 go_upto_region 2 with fail
 have b3:=bc2.set 3 (.slice (some ⟨w1.heap.size,0,none⟩) hs.length hs.length);have k3:KpP (·=gc) (w1.alloc (.cells (Array.replicate hs.length (.bool false)) 4)) ((w1.alloc (.cells (Array.replicate hs.length (.bool false)) 4)).setCell ⟨gc,3,none⟩ (.slice (some ⟨w1.heap.size,0,none⟩) hs.length hs.length)):=KpP.set (p:=(·=gc)) (x:=⟨gc,3,none⟩) (KpP.refl _ _) (.inl rfl) _;have n1:=blk_blk B1 bc1 de;have n2:=blk_blk B2 bc2 de;have B1':=k3.blk (B1.ext E2) n1;have B2':=k3.blk B2 n2;have K3:KpP (·=gc) w ((w1.alloc (.cells (Array.replicate hs.length (.bool false)) 4)).setCell ⟨gc,3,none⟩ (.slice (some ⟨w1.heap.size,0,none⟩) hs.length hs.length)):=KpP.trans (KpP.of_ext (E1.trans E2)) k3;obtain⟨gl,hgl⟩:∃g,g=w1.heap.size:=⟨_,rfl⟩;have hgl0:w.heap.size<=gl:=by have:=E1.size;omega
 rw[<-hgl] at b3 B2' B1' K3 ⊢;have HM0:Hid (LwM ⟨gc,gB,gl,A,c,hs,rn,cA,cn,cc,w⟩ ((w1.alloc (.cells (Array.replicate hs.length (.bool false)) 4)).setCell ⟨gc,3,none⟩ (.slice (some ⟨gl,0,none⟩) hs.length hs.length)) (List.replicate hs.length nilZ) none 0 [] (List.replicate hs.length false)):=lh
  ⟨by simpa using b3,by
   have e:bolC (List.replicate hs.length false)=Array.replicate hs.length (.bool false):=by simp[bolC]
   rw[e];exact B2',BfM.start B1' _,OwnS.nil _ _ _ _,by simp,by simp,by simp,K3,hgl0⟩
 clear hgl b3 k3 n1 n2 B1' B2' K3 E2 B2 bc2 c3 f3 c0' bc1 B1 E1 hmr hmb;generalize (w1.alloc (.cells (Array.replicate hs.length (.bool false)) 4)).setCell ⟨gc,3,none⟩ (.slice (some ⟨gl,0,none⟩) hs.length hs.length)=w2 at *;have c0':w2.cell? ⟨gc,0,none⟩=some (.slice A hs.length c):=HM0.out.bc.cell 0
 go_upto_region 4 with fail
 clear c0' c0
 go_loopw [3,31] (fun v3 v31 wr=>∃(k:Nat) (rows:List Hz) (TA:Option Addr) (Tc:Nat) (T:List Int),v31=.int .i64 k/\k<=hs.length/\v3=.slice TA T.length Tc/\T.length<=k/\Hid (LwM ⟨gc,gB,gl,A,c,hs,rn,cA,cn,cc,w⟩ wr rows TA Tc T (List.replicate hs.length false))/\Hid (BefO (insL hs) rn rows k 0)/\Hid (∀v:Int,v∈T<->∃y:Nat,v=y/\y<k/\isD (insL hs) y=true)) (fun _ v _=>hs.length-(intOf v).toNat)
 case atStart=>exact⟨0,_,none,0,[],rfl,om,rfl,by simp,HM0,lh (BefO.start _ _ _),lh si⟩
 case round=>
  obtain⟨k,rows,TA,Tc,T,rfl,hk,rfl,hTl,HM,HBF,HT⟩:=hrel;by_cases hlt:k<hs.length
  ·have hkI:(k:Int)<hs.length:=om;obtain⟨ib,io,hiA,o0,o1,o2,o3,o4⟩:=(HP.out wr HM.out.kp).get hlt;have HSU:=fun(w':World) (x:Ext wr w')=>lh (successors_any gc A c hs rn runes caps HG.out k hlt w' ((HP.out wr HM.out.kp).ext x) ((HM.out.bc.ext x).cell 0) ((HM.out.bc.ext x).cell 1));have hisd:isD (insL hs) k=(hs[k].op == 0):=by
    unfold isD;rw[insL_get hlt];simp only[Hin.ins];rw[Bool.eq_iff_iff,beq_iff_eq];exact decide_eq_true_iff
   have HISD:=lh hisd;generalize hs[k]=h at *;obtain⟨hop,hx,hy,hn,hhA,hc,hl⟩:=h
   simp only at o0 o1 o2 o3 o4 HISD
   have hiA':=hiA;subst hiA';clear hiA hisd;have BI:=Blk.new wr 129 #[.int .i64 hop,.int .i64 hx,.int .i64 hy,.int .i64 hn,.slice hhA hl.length hc];have EI:=Ext.alloc wr (.cells #[.int .i64 hop,.int .i64 hx,.int .i64 hy,.int .i64 hn,.slice hhA hl.length hc] 129)
   go_upto_region 6 with fail
   obtain⟨g5,hg5⟩:∃g,g=wr.heap.size:=⟨_,rfl⟩
   rw[<-hg5] at BI ⊢;clear hg5 o0 o1 o2 o3 o4;have HSU5:=HSU _ EI;have HM5:=lh (HM.out.ext EI);clear HM HSU EI;generalize wr.alloc (.cells #[.int .i64 hop,.int .i64 hx,.int .i64 hy,.int .i64 hn,.slice hhA hl.length hc] 129)=w5 at *;obtain⟨SL,hSL⟩:∃SL,Hid (SL=sucL (insL hs) rn k):=⟨_,lh rfl⟩;have hSl2:SL.length<=2:=by rw[hSL.out];exact sucL_len _ _ _
   have HSlt:=lh (show ∀j∈SL,j<hs.length by
    intro j hj;rw[hSL.out] at hj;have:=(sucE_lt HG.out ((suc_iff HG.out).1 hj)).2
    rwa [insL_len] at this)
   rw[<-hSL.out] at HSU5
   go_upto_region 7 with(go_at_call 205;refine HSU5.out.mono ?_;rintro e w6 ⟨SA,Sc,rfl,hS,x6⟩)
   have HM6:=lh (HM5.out.ext x6);have BI6:=BI.ext x6;have hsz6:w.heap.size<=w5.heap.size:=HM5.out.kp.size;have HS0:=lh (show OwnI w6 w.heap.size 3 SA Sc (natsI SL) from OwnS.downU hS hsz6);have HSap:=lh (show ∀z∈rows,∀b,z.A.map (·.block)=some b->SA.map (·.block)≠some b by
    intro z hz b hb e;have h1:=(OwnS.blt (HM5.out.bf.own z hz) hb).1;have h2:=OwnS.row hS b e;omega)
   have HTS:=lh (show ∀b,TA.map (·.block)=some b->b<w6.heap.size from fun b hb=>(OwnS.blt HM6.out.tw hb).1);clear HM5 BI HSU5 x6 hS
   go_loopw [40] (fun v40 wq=>∃(m:Nat) (rows2:List Hz),v40=.int .i64 m/\m<=SL.length/\Hid (LwM ⟨gc,gB,gl,some ⟨ib,io,none⟩,c,hs,rn,cA,cn,cc,w⟩ wq rows2 TA Tc T (List.replicate hs.length false))/\Hid (BefO (insL hs) rn rows2 k m)/\Hid (OwnI wq w.heap.size 3 SA Sc (natsI SL))/\Hid (∀z∈rows2,∀b,z.A.map (·.block)=some b->SA.map (·.block)≠some b)/\Hid (Blk wq g5 129 #[.int .i64 hop,.int .i64 hx,.int .i64 hy,.int .i64 hn,.slice hhA hl.length hc])) (fun v _=>SL.length-(intOf v).toNat)
   case atStart=>exact⟨0,rows,rfl,om,HM6,HBF,HS0,HSap,lh BI6⟩
   case round=>
    obtain⟨m,rows2,rfl,hm,HM7,HBF7,HS7,HSap7,HBI7⟩:=hrel;by_cases hltm:m<SL.length
    ·have hmI:(m:Int)<SL.length:=om;obtain⟨sb,so,hSA,cs⟩:=(IL.of_own HS7.out (fun v hv=>by
      obtain⟨j,hj,rfl⟩:=List.mem_map.1 hv;have:=HSlt.out j hj;unfold I64;omega)).get (k:=m) (by rw[natsI_len];exact hltm)
     have hnv:(natsI SL)[m]'(by rw[natsI_len];exact hltm)=(SL[m]:Int):=by simp[natsI]
     rw[hnv] at cs;have htl:=HSlt.out _ (List.getElem_mem hltm);have HSM:=lh (show ∃h:m<SL.length,SL[m]=SL[m] from⟨hltm,rfl⟩);obtain⟨t,ht⟩:∃t,Hid (SL[m]=t):=⟨_,lh rfl⟩;rw[ht.out] at cs htl;have htr:t<rows2.length:=by rw[HM7.out.rl];exact htl
     have htI:(t:Int)<hs.length:=om;have ct:wr.cell? ⟨gB,t,none⟩=some (.slice rows2[t].A rows2[t].l.length rows2[t].c):=Blk.cellZ HM7.out.bf.blk htr;have hlt2:=HBF7.out.le _ (List.getElem_mem htr);have hwq:w.heap.size<=wr.heap.size:=HM7.out.kp.size;have hSA':=hSA;subst hSA';clear hnv hSA;have hBp:=HM7.out.bf;have ftB:=HM7.out.bf.blk.frz t;have hown:=HM7.out.bf.own _ (List.getElem_mem htr);have hneB:=own_blk hown HM7.out.bf.blk de;have HOWN:=lh hown;have hgB1:=HM7.out.bf.blk
     go_wp2_with ((at_builtin;refine wpList_app _ rfl _ _ _ rfl w.heap.size 3 iI (.int .i64 0) 1 8 Tryz.underlying22 jI0 jI1 jI2 jI3 rfl om rows2[t].A rows2[t].l.length rows2[t].c (rows2[t].l.map (Value.int .i64)) rfl (OwnS.ext HOWN.out (Ext.alloc _ _)) _ 1 1 [.int .i64 k] rfl rfl (blk_cells (Blk.new _ _ _)) (by intro u hu;rw[List.mem_singleton.1 hu];rfl) um om (Nat.le_trans hwq (Ext.alloc _ _).size) ?_;intro A8 d8 w8 ho8 hg8 hat8;have b8:=(KpP.of_grown hg8).blk (hgB1.ext (Ext.alloc _ _)) hneB;have c8:w8.cell? ⟨gB,t,none⟩=some (.slice rows2[t].A rows2[t].l.length rows2[t].c):=Blk.cellZ b8 htr;have f8:=b8.frz t))
     have HFN:Hid (LwM ⟨gc,gB,gl,some ⟨ib,io,none⟩,c,hs,rn,cA,cn,cc,w⟩ (w8.setCell ⟨gB,t,none⟩ (.slice A8 (rows2[t].l.length+1) d8)) (rows2.set t ⟨A8,d8,rows2[t].l++[(k:Int)]⟩) TA Tc T (List.replicate hs.length false)/\BefO (insL hs) rn (rows2.set t ⟨A8,d8,rows2[t].l++[(k:Int)]⟩) k (m+1)/\
      OwnI (w8.setCell ⟨gB,t,none⟩ (.slice A8 (rows2[t].l.length+1) d8)) w.heap.size 3 (some ⟨sb,so,none⟩) Sc (natsI SL)/\(∀z∈rows2.set t ⟨A8,d8,rows2[t].l++[(k:Int)]⟩,∀b,z.A.map (·.block)=some b->(some (⟨sb,so,none⟩:Addr)).map (·.block)≠some b)/\
      Blk (w8.setCell ⟨gB,t,none⟩ (.slice A8 (rows2[t].l.length+1) d8)) g5 129 #[.int .i64 hop,.int .i64 hx,.int .i64 hy,.int .i64 hn,.slice hhA hl.length hc]):=lh (by
      have XA:=Ext.alloc wr (.cells #[.int .i64 k] 3);have kg:=KpP.of_grown hg8;have hlen:(rows2[t].l++[(k:Int)]).length=rows2[t].l.length+1:=by simp
      have hoI:OwnI w8 w.heap.size 3 A8 d8 (rows2[t].l++[(k:Int)]):=by
       show OwnS w8 w.heap.size 3 1 A8 (rows2[t].l++[(k:Int)]).length d8 ((rows2[t].l++[(k:Int)]).map (Value.int .i64))
       rw[hlen,List.map_append];exact ho8
      have h1:=HM7.out.put htr XA hoI hg8 hat8 hgB0;rw[hlen] at h1;have hS8:=OwnS.kp (OwnS.ext HS7.out XA) kg (fun b hb e=>HSap7.out _ (List.getElem_mem htr) b e hb);refine⟨h1,HBF7.out.put' hSL.out hltm htr ht.out A8 d8,OwnS.far hS8 (own_blk hS8 b8 de) _,fun z hz b hb=>?_,(kg.blk (HBI7.out.ext XA) (own_blk (OwnS.ext hown XA) (HBI7.out.ext XA) de)).far (blk_blk (kg.blk (HBI7.out.ext XA) (own_blk (OwnS.ext hown XA) (HBI7.out.ext XA) de)) b8 de) _⟩;obtain⟨j,hj,e⟩:=List.getElem_of_mem hz;rw[List.length_set] at hj;rw[List.getElem_set] at e;by_cases hjt:t=j
      ·rw[if_pos hjt] at e;subst e;rcases hat8 with e2|e2
       ·exact HSap7.out _ (List.getElem_mem htr) b (by rw[<-e2];exact hb)
       ·rw[e2] at hb;injection hb with hb
        intro e3;have:=(OwnS.blt (OwnS.ext HS7.out XA) e3).1;omega
      ·rw[if_neg hjt] at e;subst e;exact HSap7.out _ (List.getElem_mem hj) b hb)
     clear b8 c8 f8 ho8 hg8 hat8;refine⟨⟨m+1,_,by go_num,om,lh HFN.out.1,lh HFN.out.2.1,lh HFN.out.2.2.1,lh HFN.out.2.2.2.1,lh HFN.out.2.2.2.2⟩,?_⟩;simp[intOf];omega
    ·have hmI:¬(m:Int)<SL.length:=om;obtain rfl:m=SL.length:=om;have HBF8:=lh (show BefO (insL hs) rn rows2 (k+1) 0 by
      have h:=HBF7.out;rw[hSL.out] at h;exact h.row)
     have g50:wr.cell? ⟨g5,0,none⟩=some (.int .i64 hop):=HBI7.out.cell 0;clear HBF7 HS7 HSap7 HS0 HSap HM6;by_cases hd:hop=0
     ·subst hd;have hwq:w.heap.size<=wr.heap.size:=HM7.out.kp.size;have HTW:=lh (show OwnS wr w.heap.size 3 1 TA T.length Tc (T.map (Value.int .i64)) from HM7.out.tw)
      go_wp2_with ((at_builtin;refine wpList_app _ rfl _ _ _ rfl w.heap.size 3 iI (.int .i64 0) 1 8 Tryz.underlying22 jI0 jI1 jI2 jI3 rfl om TA T.length Tc (T.map (Value.int .i64)) rfl (OwnS.ext HTW.out (Ext.alloc _ _)) _ 1 1 [.int .i64 k] rfl rfl (blk_cells (Blk.new _ _ _)) (by intro u hu;rw[List.mem_singleton.1 hu];rfl) um om (Nat.le_trans hwq (Ext.alloc _ _).size) ?_;intro A8 d8 w8 ho8 hg8 hat8))
      have hlen:(T++[(k:Int)]).length=T.length+1:=by simp
      have HM9:=lh (HM7.out.push (x:=(k:Int)) (Ext.alloc wr (.cells #[.int .i64 k] 3)) (show OwnS w8 w.heap.size 3 1 A8 (T++[(k:Int)]).length d8 ((T++[(k:Int)]).map (Value.int .i64)) by rw[hlen,List.map_append];exact ho8) hg8 hat8);have HT8:=lh (show ∀v:Int,v∈T++[(k:Int)]<->∃y:Nat,v=y/\y<k+1/\isD (insL hs) y=true by
       intro v;rw[List.mem_append,HT.out v];constructor
       ·rintro(⟨y,h1,h2,h3⟩|h1)
        ·exact⟨y,h1,om,h3⟩
        ·exact⟨k,List.mem_singleton.1 h1,om,by rw[HISD.out];rfl⟩
       ·rintro⟨y,h1,h2,h3⟩;by_cases e:y=k
        ·right;rw[h1,e];simp
        ·exact .inl ⟨y,h1,om,h3⟩)
      clear ho8 hg8 hat8;go_roundw
      case rel=>exact⟨k+1,rows2,A8,d8,T++[(k:Int)],by go_num,om,by rw[hlen],by rw[hlen];omega,HM9,HBF8,HT8⟩
      case measure=>simp[intOf];omega
     ·have hd2:(hop == 0)=false:=by simp[hd]
      have HT8:=lh (show ∀v:Int,v∈T<->∃y:Nat,v=y/\y<k+1/\isD (insL hs) y=true by
       intro v;rw[HT.out v];constructor
       ·rintro⟨y,h1,h2,h3⟩;exact⟨y,h1,om,h3⟩
       ·rintro⟨y,h1,h2,h3⟩;refine⟨y,h1,?_,h3⟩;refine Nat.lt_of_le_of_ne om (fun e=>?_);rw[e,HISD.out,hd2] at h3
        cases h3)
      clear hd
      go_wp2_with fail
      go_roundw
      case rel=>exact⟨k+1,rows2,TA,Tc,T,by go_num,om,rfl,om,HM7,HBF8,HT8⟩
      case measure=>simp[intOf];omega
  ·have hkI:¬(k:Int)<hs.length:=om;obtain rfl:k=hs.length:=om;have HLD:Hid (LdI (insL hs) rn (List.replicate hs.length false) T):=lh (by
    have hfl:flsB (List.replicate hs.length false)=hs.length:=by unfold flsB;rw[List.countP_replicate];rfl
    refine⟨by simp[insL_len],fun i hi=>?_,fun v hv=>?_,fun j hj hd=>?_,by rw[hfl,insL_len];omega⟩
    ·rw[List.getElem?_replicate] at hi
     split at hi<;>simp at hi
    ·obtain⟨y,h1,h2,h3⟩:=(HT.out v).1 hv;exact⟨y,h1,by rw[insL_len];exact h2,.inl h3⟩
    ·rw[insL_len] at hj;rcases hd with h|h
     ·exact .inl ((HT.out j).2 ⟨j,rfl,hj,h⟩)
     ·rw[List.getElem?_replicate] at h
      split at h<;>simp at h)
   have HRW:=lh (show ∀j (hj:j<rows.length),∀i:Nat,(sucE (insL hs) rn i j<->(i:Int)∈rows[j].l) by
    intro j hj i;rw[HBF.out.me j hj i];constructor
    ·intro hE;have h1:=(sucE_lt HG.out hE).1;rw[insL_len] at h1;exact⟨i,rfl,.inl ⟨h1,(suc_iff HG.out).2 hE⟩⟩
    ·rintro⟨y,h1,h2⟩;have e:i=y:=om;rcases h2 with⟨_,h3⟩|⟨_,h3⟩
     ·rw[e];exact(suc_iff HG.out).1 h3
     ·simp at h3)
   have HRL:=lh (show ∀z∈rows,z.l.length<=2*hs.length from fun z hz=>HBF.out.le z hz);have HRV:=lh (show ∀j (hj:j<rows.length),∀v∈rows[j].l,∃y:Nat,v=y/\y<hs.length by
    intro j hj v hv;obtain⟨y,h1,h2⟩:=(HBF.out.me j hj v).1 hv;refine⟨y,h1,?_⟩;rcases h2 with⟨h2,_⟩|⟨_,h3⟩
    ·exact h2
    ·simp at h3)
   clear HBF HT hTl hkI hk
   go_upto_region 14 with fail
   go_loopg [3] (2*flsB (List.replicate hs.length false)+T.length) (fun gk v3 wq=>∃(TA2:Option Addr) (Tc2:Nat) (T2:List Int) (ls:List Bool),v3=.slice TA2 T2.length Tc2/\2*flsB ls+T2.length<=gk/\Hid (LwM ⟨gc,gB,gl,A,c,hs,rn,cA,cn,cc,w⟩ wq rows TA2 Tc2 T2 ls)/\Hid (LdI (insL hs) rn ls T2))
   case atStart=>exact⟨TA,Tc,T,_,rfl,Nat.le_refl _,HM,HLD⟩
   case round=>
    obtain⟨TA2,Tc2,T2,ls,rfl,hgk,HM2,HLD2⟩:=hrel;have hTsz:=HLD2.out.sz;rw[insL_len] at hTsz;rcases List.eq_nil_or_concat T2 with rfl|⟨T3,v,hTv⟩
    ·have HF:=lh (show RetLd gc A c hs rn cA cn cc w (.returned (.tuple #[])) wr from⟨rfl,gl,ls,hgl0,HM2.out.bc,HM2.out.bl,HM2.out.ll,fun i hi=>HLD2.out.done HG.out i (by rw[insL_len];exact hi),HM2.out.kp⟩);clear HM2 HLD2
     go_wp2_with fail
     exact bodyPost_end (v:=.tuple #[]) (by simp[results,Tryz.results134,go_sem]) rfl HF.out
    ·rw[List.concat_eq_append] at hTv;subst hTv;obtain⟨j0,rfl,_⟩:=HLD2.out.tt v si;have hLP:=fun row=>HLD2.out.pop row;have hrl0:rows.length=hs.length:=HM2.out.rl;have hj0:j0<rows.length:=by rw[hrl0];have:=(hLP []).1;rwa [insL_len] at this
     have hj0I:(j0:Int)<hs.length:=om;have HLJ:=lh (hLP rows[j0].l).2;have hTw:OwnS wr w.heap.size 3 1 TA2 (T3++[(j0:Int)]).length Tc2 ((T3++[(j0:Int)]).map (Value.int .i64)):=HM2.out.tw;have hTc:=OwnS.caps hTw;have hTne:(T3++[(j0:Int)]).map (Value.int .i64)≠[]:=by simp
     obtain⟨tb,t9,hTA,hTcl⟩:=OwnS.cells hTw hTne;have hTl:=hTcl T3.length si;have hTv:((T3++[(j0:Int)]).map (Value.int .i64))[T3.length]'si=.int .i64 j0:=by simp
     rw[hTv] at hTl;have hlen3:(T3++[(j0:Int)]).length=T3.length+1:=by simp
     have cj:wr.cell? ⟨gB,j0,none⟩=some (.slice rows[j0].A rows[j0].l.length rows[j0].c):=Blk.cellZ HM2.out.bf.blk hj0;have hrl:=HRL.out _ (List.getElem_mem hj0);have HMP:=lh HM2.out.pop;rw[hlen3] at hTsz hTc hgk ⊢;have hTA':=hTA;subst hTA';clear hTw hTne hTcl hTv hTA HM2 HLD2 hLP
     go_upto_region 18 with fail
     have HGK:=lh hgk;have HW2:=lh HMP.out.kp.size;clear hTl cj hTc hgk;obtain⟨row,hrow⟩:∃row,Hid (row=rows[j0].l):=⟨_,lh rfl⟩
     rw[<-hrow.out] at HLJ hrl ⊢;have hrA:rows[j0].l.length=row.length:=by rw[hrow.out]
     go_loopw [3,82] (fun v3 v82 wq=>∃(m:Nat) (TA4:Option Addr) (Tc4:Nat) (T4:List Int) (ls4:List Bool),v82=.int .i64 m/\m<=row.length/\v3=.slice TA4 T4.length Tc4/\Hid (2*flsB ls4+T4.length+1<=gk)/\Hid (LwM ⟨gc,gB,gl,A,c,hs,rn,cA,cn,cc,w⟩ wq rows TA4 Tc4 T4 ls4)/\Hid (LdJ (insL hs) rn ls4 T4 j0 row m)) (fun _ v _=>row.length-(intOf v).toNat)
     case atStart=>exact⟨0,_,Tc2,T3,ls,rfl,om,rfl,lh (by have:=HGK.out;omega),HMP,HLJ⟩
     case round=>
      obtain⟨m,TA4,Tc4,T4,ls4,rfl,hm,rfl,HG4,HM4,HL4⟩:=hrel;by_cases hltm:m<row.length
      ·have hmI:(m:Int)<row.length:=om;have hmr:m<rows[j0].l.length:=om;have hro:OwnI wr w.heap.size 3 rows[j0].A rows[j0].c rows[j0].l:=HM4.out.bf.own _ (List.getElem_mem hj0);obtain⟨y,hy,hyl⟩:=HRV.out j0 hj0 rows[j0].l[m] (List.getElem_mem hmr);obtain⟨rb,ro,hrA9,hrc⟩:=(IL.of_own hro (fun v hv=>by
        obtain⟨y9,h1,h2⟩:=HRV.out j0 hj0 v hv;unfold I64;omega)).get hmr
       rw[hy] at hrc;have hyE:sucE (insL hs) rn y j0:=(HRW.out j0 hj0 y).2 (by rw[<-hy];exact List.getElem_mem hmr);have hrow9:∃h:m<row.length,row[m]=(y:Int):=⟨hltm,by simp only[hrow.out];exact hy⟩;have hyI:(y:Int)<hs.length:=om;have hll:ls4.length=hs.length:=HM4.out.ll;have hyl4:y<ls4.length:=om;have c3:wr.cell? ⟨gc,3,none⟩=some (.slice (some ⟨gl,0,none⟩) hs.length hs.length):=HM4.out.bc.cell 3;have cy:wr.cell? ⟨gl,y,none⟩=some (.bool ls4[y]):=by
        rw[HM4.out.bl.cell y];simp[bolC,hyl4]
       have fy:=HM4.out.bl.frz y;have hT4:=HL4.out.sz;rw[insL_len] at hT4;have hw4:w.heap.size<=wr.heap.size:=HM4.out.kp.size;rw[hrA9];have HRA9:=lh hrA9;clear hro hrA9 hy;by_cases hb:ls4[y]=true
       ·rw[hb] at cy;have HL5:=lh (show LdJ (insL hs) rn ls4 T4 j0 row (m+1) by
         obtain⟨h1,h2⟩:=hrow9;exact HL4.out.skip h1 h2 (by rw[List.getElem?_eq_getElem hyl4,hb]))
        clear hrow9 hyE hb
        go_wp2_with fail
        go_roundw
        case rel=>exact⟨m+1,TA4,Tc4,T4,ls4,by go_num,om,rfl,HG4,HM4,HL5⟩
        case measure=>simp[intOf];omega
       ·have hb2:ls4[y]=false:=by simpa using hb
        have hls:ls4[y]? = some false:=by rw[List.getElem?_eq_getElem hyl4,hb2]
        rw[hb2] at cy;have HL5:=lh (show LdJ (insL hs) rn (ls4.set y true) (T4++[(y:Int)]) j0 row (m+1) by
         obtain⟨h1,h2⟩:=hrow9;exact HL4.out.mark h1 h2 hls hyE)
        have HG5:=lh (show 2*flsB (ls4.set y true)+(T4++[(y:Int)]).length+1<=gk by
         have h1:=flsB_set hls;have h2:=HG4.out;rw[List.length_append];simp only[List.length_cons,List.length_nil];omega)
        clear hrow9 hyE hb hb2 hls;have HM5:=lh (HM4.out.mark y)
        go_upto_region 22 with fail
        simp only at HM5
        generalize wr.setCell ⟨gl,y,none⟩ (.bool true)=w5 at *;have hw5:w.heap.size<=w5.heap.size:=HM5.out.kp.size;have HTW:=lh (show OwnS w5 w.heap.size 3 1 TA4 T4.length Tc4 (T4.map (Value.int .i64)) from HM5.out.tw)
        go_wp2_with ((at_builtin;refine wpList_app _ rfl _ _ _ rfl w.heap.size 3 iI (.int .i64 0) 1 8 Tryz.underlying22 jI0 jI1 jI2 jI3 rfl om TA4 T4.length Tc4 (T4.map (Value.int .i64)) rfl (OwnS.ext HTW.out (Ext.alloc _ _)) _ 1 1 [.int .i64 y] rfl rfl (blk_cells (Blk.new _ _ _)) (by intro u hu;rw[List.mem_singleton.1 hu];rfl) um om (Nat.le_trans hw5 (Ext.alloc _ _).size) ?_;intro A8 d8 w8 ho8 hg8 hat8))
        have hlen:(T4++[(y:Int)]).length=T4.length+1:=by simp
        have HM9:=lh (HM5.out.push (x:=(y:Int)) (Ext.alloc w5 (.cells #[.int .i64 y] 3)) (show OwnS w8 w.heap.size 3 1 A8 (T4++[(y:Int)]).length d8 ((T4++[(y:Int)]).map (Value.int .i64)) by rw[hlen,List.map_append];exact ho8) hg8 hat8);clear ho8 hg8 hat8;go_roundw
        case rel=>exact⟨m+1,A8,d8,T4++[(y:Int)],ls4.set y true,by go_num,om,by rw[hlen],HG5,HM9,HL5⟩
        case measure=>simp[intOf];omega
      ·have hmI:¬(m:Int)<row.length:=om;obtain rfl:m=row.length:=om;have HLN:=lh (show LdI (insL hs) rn ls4 T4 from HL4.out.fin (fun i hE=>by rw[hrow.out];exact(HRW.out j0 hj0 i).1 hE));have hg9:=HG4.out;clear HL4 HG4
       go_wp2_with fail
       go_roundg (gk-1)
       case rel=>exact⟨TA4,Tc4,T4,ls4,rfl,om,HM4,HLN⟩
       case measure=>omega
end
section
open Go.RowKit
attribute [local go_sem ↓] Go.wp_at_zero Go.wp_at_succ
theorem infoPn:(Tryz.prog.info? 129).map (fun i=>(i.zero,i.size,i.bytes))=some (some (.agg #[.int .i64 0,.int .i64 0,.int .i64 0,.int .i64 0,.slice none 0 0]),5,56):=by kernel_rfl
theorem flatN_setU:∀(hs:List Hin) (i:Nat) (B:Option Addr) (c:Nat) (hi:i<hs.length),(flatN hs).set (i*5+4) (.slice B hs[i].l.length c)=flatN (hs.set i ⟨hs[i].op,hs[i].x,hs[i].y,hs[i].n,B,c,hs[i].l⟩)
 | [],i,_,_,hi=>by simp at hi
 | h::hs,0,_,_,_=>by simp[flatN]
 | h::hs,i+1,B,c,hi=>by
  have ih:=flatN_setU hs i B c (by simpa using hi);have e:(i+1)*5+4=i*5+4+1+1+1+1+1:=om;have ec:∀(h:Hin) (hs:List Hin),flatN (h::hs)=.int .i64 h.op::.int .i64 h.x::.int .i64 h.y::.int .i64 h.n::.slice h.A h.l.length h.c::flatN hs:=fun _ _=>rfl;rw[ec,e];simp only[List.set_cons_succ,List.getElem_cons_succ,ih,ec]
theorem PL.cellsU {w:World}{A:Option Addr}{c:Nat}{hs:List Hin}(h:PL w A c hs):CellsAt w A (flatN hs):=fun hn=>by
 have hne:hs≠[]:=fun e=>hn (by rw[e];rfl);obtain⟨b,o,hA,hc⟩:=h.at_ hne;refine⟨b,o,hA,fun j hj=>?_⟩;have hj5:j<hs.length*5:=by rw[flatN_len] at hj;exact hj
 have hi:j / 5<hs.length:=om;obtain⟨c0,c1,c2,c3,c4⟩:=hc (j / 5) hi;obtain⟨f0,f1,f2,f3,f4⟩:=flatN_get hs (j / 5) hi;have key:∀(r:Nat) (v:Value),j=j / 5*5+r->w.cell? ⟨b,o+j / 5*5+r,none⟩=some v->(flatN hs)[j / 5*5+r]? = some v->w.cell? ⟨b,o+j,none⟩=some (flatN hs)[j]:=fun r v hr h1 h2=>by
  have e1:o+j=o+j / 5*5+r:=om;rw[e1,h1]
  congr 1
  obtain⟨_,h3⟩:=List.getElem?_eq_some_iff.1 h2
  rw[<-h3]
  congr 1
  exact hr.symm
 have hr:j % 5=0\/j % 5=1\/j % 5=2\/j % 5=3\/j % 5=4:=om;rcases hr with hr|hr|hr|hr|hr
 ·exact key 0 _ om c0 f0
 ·exact key 1 _ om c1 f1
 ·exact key 2 _ om c2 f2
 ·exact key 3 _ om c3 f3
 ·exact key 4 _ om c4 f4
def RetCi (hs:List Hin)(w:World)(e:Ending)(w':World):Prop:=∃(A':Option Addr) (c':Nat),e=.returned (.slice A' hs.length c')/\OwnS w' w.heap.size 129 5 A' hs.length c' (flatN hs)/\Ext w w'
theorem cloneInsn_any (A:Option Addr)(c:Nat)(hs:List Hin)(w:World)(hl:PL w A c hs)(h0:0<hs.length)(hb:hs.length<=100000) :
 Calls Tryz.prog 130 #[.slice A hs.length c] w (RetCi hs w):=by
 obtain⟨iS,jS0,jS1,jS2,jS3⟩:=info_parts infoPn;obtain⟨b,o,hA,_⟩:=hl.at_ (by intro e;rw[e] at h0;simp at h0);subst hA;have hn:=fun wx=>Lib.run_eql_slice_nil (P:=Tryz.prog) wx 33 129 (some ⟨b,o,none⟩) hs.length c 0 0 Tryz.underlying33;simp only[Option.isNone_some] at hn;have hm:=hl.len;have hown:OwnS (w.alloc (.cells #[] 129)) w.heap.size 129 5 (some ⟨w.heap.size,0,none⟩) 0 0 []:=
  OwnS.of_blk (Blk.new w 129 #[]) (Nat.le_refl _) rfl (Nat.le_refl _) (Nat.zero_le _)
 have hcl:=(hl.ext (Ext.alloc w (.cells #[] 129))).cellsU;have h1:=flatN_one hs;have HFL:=lh (flatN_len hs);have H63:=lh (show 0+hs.length<=maxLen by unfold maxLen;omega);have H8:=lh (show(0+hs.length)*56<=140737488355328 by omega);clear hb h0;go_enter Tryz.func130,Tryz.ntmps130
 go_wp2_with ((at_builtin;refine wpList_app _ rfl _ _ _ rfl w.heap.size 129 iS _ 5 56 Tryz.underlying33 jS0 jS1 jS2 jS3 rfl om _ 0 0 [] rfl hown _ hs.length c (flatN hs) rfl HFL.out hcl h1 H63.out H8.out si ?_;intro A' c' w' hown' hg hat))
 go_ret
 simp only[List.nil_append,Nat.zero_add] at hown';have hE:Ext w w':=(Ext.alloc w (.cells #[] 129)).grown hg si;exact⟨A',c',by simp,hown',hE⟩
structure Nc where
 gc:Nat
 hs:List Hin
 rn:Bool
 A:Option Addr
 c:Nat
 w0:World
structure NcM (P:Nc)(w:World)(k m:Nat)(hs:List Hin)(cA:Option Addr)(cc:Nat)(cuts:List Int):Prop where
 bc:Blk w P.gc 136 #[.slice P.A P.hs.length P.c,.bool P.rn,.slice cA cuts.length cc,.slice none 0 0]
 bi:OwnS w P.w0.heap.size 129 5 P.A P.hs.length P.c (flatN hs)
 hl:hs.length=P.hs.length
 same:hs.map Hin.ins=P.hs.map Hin.ins
 own:∀i (hi:i<hs.length),i<k->OwnP w P.w0.heap.size hs[i].A hs[i].c hs[i].l
 old:∀i (hi:i<hs.length) (hi2:i<P.hs.length),k<=i->hs[i]=P.hs[i]
 ci:OwnI w P.w0.heap.size 3 cA cc cuts
 me:∀i (hi:i<P.hs.length),i<m->∀s∈P.hs[i].l,s.1∈cuts/\s.2+1∈cuts
 wf:∀v∈cuts,I64 v
 x:Ext P.w0 w
 g0:P.w0.heap.size<=P.gc
variable {P:Nc} {w wa w8 w':World} {k m:Nat} {hs:List Hin} {cA:Option Addr} {cc:Nat} {cuts:List Int}
theorem NcM.ext (h:NcM P w k m hs cA cc cuts)(x:Ext w w'):NcM P w' k m hs cA cc cuts:=
 ⟨h.bc.ext x,OwnS.ext h.bi x,h.hl,h.same,fun i hi hk=>OwnS.ext (h.own i hi hk) x,h.old,OwnS.ext h.ci x,h.me,h.wf,h.x.trans x,h.g0⟩
theorem NcM.lOf (h:NcM P w k m hs cA cc cuts){i:Nat}(hi:i<hs.length)(hi2:i<P.hs.length):hs[i].l=P.hs[i].l:=by
 have h1:=congrArg (fun l=>l[i]?) h.same;simp only[List.getElem?_map,List.getElem?_eq_getElem hi,List.getElem?_eq_getElem hi2,Option.map_some,Option.some.injEq] at h1;exact congrArg Ins.set h1
theorem NcM.clone (h:NcM P w k m hs cA cc cuts)(hk:k<hs.length){B:Option Addr}{c:Nat}(ho:OwnP w P.w0.heap.size B c hs[k].l){g:Nat}(hA:P.A=some ⟨g,0,none⟩):NcM P (w.setCell ⟨g,k*5+4,none⟩ (.slice B hs[k].l.length c)) (k+1) m (hs.set k ⟨hs[k].op,hs[k].x,hs[k].y,hs[k].n,B,c,hs[k].l⟩) cA cc cuts:=by
 have hj:k*5+4<(flatN hs).length:=by rw[flatN_len];omega
 obtain⟨g',he,hg0,_,_,hglt,hset⟩:=OwnS.store h.bi hj;have hgg:g'=g:=by rw[hA] at he;injection he with h;injection h with h;exact h.symm
 subst hgg;have bI:=h.bi;have nA:P.A.map (·.block)=some g':=by rw[hA];rfl
 obtain⟨_,cur,hcur⟩:=OwnS.blt bI nA;have hB:Blk w g' 129 cur:=hcur;have hS:=hset (.slice B hs[k].l.length c);rw[flatN_setU hs k B c hk] at hS;refine⟨h.bc.far (blk_blk h.bc hB de) _,hS,by rw[List.length_set];exact h.hl,?_,fun i hi hik=>?_,fun i hi hi2 hik=>?_,OwnS.far h.ci (own_blk h.ci hB de) _,h.me,h.wf,h.x.setNew (p:=⟨g',k*5+4,none⟩) hg0 _,h.g0⟩
 ·rw[List.map_set,<-h.same];have e:(⟨hs[k].op,hs[k].x,hs[k].y,hs[k].n,B,c,hs[k].l⟩:Hin).ins=(hs.map Hin.ins)[k]'(by simpa using hk):=by simp[Hin.ins]
  rw[e,List.set_getElem_self]
 ·rw[List.length_set] at hi;simp only[List.getElem_set];by_cases e:k=i
  ·subst e;simp only[if_true];exact OwnS.far ho (own_blk ho hB de) _
  ·rw[if_neg e];have ow:=h.own i hi om;exact OwnS.far ow (own_blk ow hB de) _
 ·rw[List.length_set] at hi;rw[List.getElem_set,if_neg om];exact h.old i hi hi2 om
theorem NcM.put (h:NcM P w k m hs cA cc cuts){u v:Int}(hu:I64 u)(hv:I64 v)(xa:Ext w wa){A8:Option Addr}{c8:Nat}(ho:OwnI w8 P.w0.heap.size 3 A8 c8 (cuts++[u,v]))(hg:wa.grownBy w8 (cA.map (·.block)))
 (hat:A8.map (·.block)=cA.map (·.block)\/A8.map (·.block)=some wa.heap.size) (x8:Ext w8 w'):NcM P (w'.setCell ⟨P.gc,2,none⟩ (.slice A8 (cuts.length+2) c8)) k m hs A8 c8 (cuts++[u,v]):=by
 have kg:=KpP.of_grown hg;have ci:=OwnS.ext h.ci xa;have bc:=(kg.blk (h.bc.ext xa) (own_blk ci (h.bc.ext xa) de)).ext x8;have nI:∀{base e size n c A xs},OwnS wa base e size A n c xs->e≠3->∀b,Option.map (fun a:Addr=>a.block) A=some b->¬cA.map (·.block)=some b:=fun ho hT b hb e=>by
  obtain⟨_,cur,hh⟩:=OwnS.blt ho hb;exact own_blk ci (show Blk wa b _ cur from hh) hT.symm e
 have bi:=OwnS.ext (OwnS.kp (OwnS.ext h.bi xa) kg (nI (OwnS.ext h.bi xa) de)) x8;have ho':=OwnS.ext ho x8;refine⟨by have:=bc.set 2 (.slice A8 (cuts.length+2) c8);simpa using this,OwnS.far bi (own_blk bi bc de) _,h.hl,h.same,fun i hi hik=>?_,h.old,OwnS.far ho' (own_blk ho' bc de) _,fun i hi him s hs=>?_,fun y hy=>?_,?_,h.g0⟩
 ·have ow:=OwnS.ext (OwnS.kp (OwnS.ext (h.own i hi hik) xa) kg (nI (OwnS.ext (h.own i hi hik) xa) de)) x8;exact OwnS.far ow (own_blk ow bc de) _
 ·obtain⟨h1,h2⟩:=h.me i hi him s hs;exact⟨List.mem_append_left _ h1,List.mem_append_left _ h2⟩
 ·rcases List.mem_append.1 hy with hy|hy
  ·exact h.wf y hy
  ·rcases List.mem_cons.1 hy with rfl|hy
   ·exact hu
   ·rw[List.mem_singleton.1 hy];exact hv
 ·exact(((h.x.trans xa).kp kg (fun i hi=>OwnS.row ci i hi)).trans x8).setNew (p:=⟨P.gc,2,none⟩) h.g0 _
end
section
open Go.RowKit
attribute [local go_sem ↓] Go.wp_at_zero Go.wp_at_succ
structure StmI (w:World)(F:Nat->Prop)(gs:Nat)(q:Mq)(RA:Option Addr)(rc:Nat)(N op mark rd:Int)(bg cl:Bool)(fv:Value)(sts:List Sta)(rs:List Ru):Prop where
 st:Blk w gs 126 (strC ⟨q.gm,RA,rs.length,rc,N,bg,cl⟩ op)
 ow:OwnS w 0 140 2 RA rs.length rc (flatR rs)
 ma:MaI w F q mark rd fv sts
 rd_:∀z∈sts,z.rd<=rd
 re:∀r∈rs,∃z∈sts,z.b=r.sb/\z.l=r.l
 gt:∀r∈rs,r.f.At w
 nd:(fpR rs).Nodup
 fr:∀x∈fpR rs,F x
 fg:F gs
 fo:∀b,RA.map (·.block)=some b->F b
 nl:∀r∈rs,decL q.cd.ls r.l=false
 dn:∀r∈rs,doneG (insL q.cd.hs) r.l=true->∀x∈r.f.pos (-1),x.2=N
theorem MaI.setRd {w w':World}{F:Nat->Prop}{q:Mq}{mark rd rd':Int}{fv:Value}{sts:List Sta}(h:MaI w F q mark rd fv sts)(k:KpP (·=q.gm) w w')(hb:Blk w' q.gm 134 (stmC q.gc q.gS q.gM q.cd.hs.length mark rd' fv)):MaI w' F q mark rd' fv sts:=by
 obtain⟨bm,⟨ms,bM,hl,hms⟩,sq,fm,fM⟩:=h;refine⟨hb,⟨ms,k.blk bM (blk_blk bM bm de),hl,hms⟩,sq.keep k (sq.map.ne bm) (fun z m=>⟨blk_blk (sq.at_ z m).blk bm de,(sq.at_ z m).mp.ne bm,fun b hb=>?_⟩),fm,fM⟩;obtain⟨cur,hh⟩:=(sq.at_ z m).ty b hb;exact blk_blk hh bm de
def AdF (q:Mq)(gs gr:Nat)(A:Option Addr)(sts:List Sta)(lrs:List Ru)(b:Nat):Prop:=b=q.gm\/b=gs\/b=gr\/A.map (·.block)=some b\/(∃z∈sts,z.b=b)\/b∈fpR lrs
structure AdO (w w':World)(F:Nat->Prop)(gs gr:Nat)(q:Mq)(N op mark rd:Int)(bg cl:Bool)(fv:Value)(sts:List Sta)(lrs:List Ru)(A:Option Addr)(R0:List (Int×Int)):Prop where
 ex:∃sts' RA rc rs,StmI w' F gs q RA rc N (op-(shutI (decL q.cd.ls) (itsR lrs)).length) mark (rd+1) bg cl fv sts' rs/\sts'.map zkey=sts.map zkey/\(itsR rs).Perm (openI (decL q.cd.ls) (itsR lrs))
 res:∃A' c',RsAt w' gr A' c' (R0++resI (decL q.cd.ls) (itsR lrs))/\(A'.map (·.block)=A.map (·.block)\/∀b,A'.map (·.block)=some b->w.heap.size<=b)
 kp:KpP (AdF q gs gr A sts lrs) w w'
def RetAd (F:Nat->Prop)(gs gr:Nat)(q:Mq)(N op mark rd:Int)(bg cl:Bool)(fv:Value)(sts:List Sta)(lrs:List Ru)(A:Option Addr)(R0:List (Int×Int))(w:World)(e:Ending)(w':World):Prop:=e=.returned (.tuple #[])/\AdO w w' F gs gr q N op mark rd bg cl fv sts lrs A R0
theorem advance_any (w:World)(F:Nat->Prop)(gs gr:Nat)(q:Mq)(RA:Option Addr)(n rc:Nat)(N op mark rd:Int)(bg cl:Bool)(fv:Value)(sts:List Sta)(LA:Option Addr)(lc:Nat)(lrs:List Ru)(A:Option Addr)(c:Nat)(R0:List (Int×Int))
 (st:Blk w gs 126 (strC ⟨q.gm,RA,n,rc,N,bg,cl⟩ op)) (ma:MaI w F q mark rd fv sts) (hrd:0<=rd/\rd<=1000000000) (hsr:∀z∈sts,z.rd<=rd) (lw:OwnS w 0 140 2 LA lrs.length lc (flatR lrs))
 (re:∀r∈lrs,∃z∈sts,z.b=r.sb/\z.l=r.l) (gt:∀r∈lrs,r.f.At w) (nd:(fpR lrs).Nodup) (fr:∀x∈fpR lrs,F x) (fg:F gs) (dn:∀r∈lrs,doneG (insL q.cd.hs) r.l=true->∀x∈r.f.pos (-1),x.2=N)
 (res:RsAt w gr A c R0) (hnb:∀b,w.heap.size<=b->F b) (hB:(itsR lrs).length<=100000) (hR:R0.length<=100000) (hop : -100000<=op/\op<=500000) :
 Calls Tryz.prog 65 #[.pointer (some ⟨gs,0,none⟩),.slice LA lrs.length lc,.pointer (some ⟨gr,0,none⟩)] w (RetAd F gs gr q N op mark rd bg cl fv sts lrs A R0 w):=by
 obtain⟨b1,b2,E0⟩:=alloc2 w 29 #[.pointer (some ⟨gs,0,none⟩)] 142 #[.pointer (some ⟨gr,0,none⟩)];have hz1w:w.heap.size<=w.heap.size:=Nat.le_refl _;have hcap:=OwnS.caps lw;have hwr:IntKind.i64.wrap (rd+1)=rd+1:=wj;have hwr2:wrap64 (rd+1)=rd+1:=by unfold wrap64;omega
 have HST:=lh (st.ext E0);have HMA:=lh (ma.ext E0);have s0:((w.alloc (.cells #[.pointer (some ⟨gs,0,none⟩)] 29)).alloc (.cells #[.pointer (some ⟨gr,0,none⟩)] 142)).cell? ⟨gs,0,none⟩=some (.pointer (some ⟨q.gm,0,none⟩)):=HST.out.cell 0;have m4:((w.alloc (.cells #[.pointer (some ⟨gs,0,none⟩)] 29)).alloc (.cells #[.pointer (some ⟨gr,0,none⟩)] 142)).cell? ⟨q.gm,4,none⟩=some (.int .i64 rd):=HMA.out.blk.cell 4;have f4:=HMA.out.blk.frz 4;have HLW:=lh lw;have HGT:=lh gt;have HRE:=lh re;have HFR:=lh fr;have HDN:=lh dn;have HRS:=lh res;have HND:=lh nd;have HNB:=lh hnb;have HSR:=lh hsr;have HB:=lh hB;have HR:=lh hR;clear st ma lw gt re fr dn res nd hnb hsr hB hR;go_enter Tryz.func65,Tryz.ntmps65
 go_upto_region 1 with fail
 obtain⟨z1,hz1⟩:∃z,z=w.heap.size:=⟨_,rfl⟩;obtain⟨z2,hz2⟩:∃z,z=w.heap.size+1:=⟨_,rfl⟩
 rw[<-hz2] at b2 ⊢
 rw[<-hz1] at b1 hz1w ⊢;clear hz2 hz1;generalize (w.alloc (.cells #[.pointer (some ⟨gs,0,none⟩)] 29)).alloc (.cells #[.pointer (some ⟨gr,0,none⟩)] 142)=w1 at *;have c1:w1.cell? ⟨z1,0,none⟩=some (.pointer (some ⟨gs,0,none⟩)):=b1.cell 0
 go_upto_region 2 with fail
 have hgm:gs≠q.gm:=blk_blk HST.out HMA.out.blk de;have hz1m:z1≠q.gm:=blk_blk b1 HMA.out.blk de;have hz2m:z2≠q.gm:=blk_blk b2 HMA.out.blk de;have hz1s:z1≠gs:=blk_blk b1 HST.out de;have hz2s:z2≠gs:=blk_blk b2 HST.out de;have k1:KpP (·=q.gm) w1 (w1.setCell ⟨q.gm,4,none⟩ (.int .i64 (rd+1))):=KpP.set (p:=(·=q.gm)) (x:=⟨q.gm,4,none⟩) (KpP.refl _ _) (.inl rfl) _;have MA2:=lh (HMA.out.setRd (rd':=rd+1) k1 (by have:=HMA.out.blk.set 4 (.int .i64 (rd+1));simpa[stmC] using this));have K1:=lh k1;replace b1:=b1.far (p:=⟨q.gm,4,none⟩) hz1m (.int .i64 (rd+1));replace b2:=b2.far (p:=⟨q.gm,4,none⟩) hz2m (.int .i64 (rd+1));have st2:=HST.out.far (p:=⟨q.gm,4,none⟩) hgm (.int .i64 (rd+1));clear k1 s0 m4 f4 c1;generalize w1.setCell ⟨q.gm,4,none⟩ (.int .i64 (rd+1))=w2 at *;have c1:w2.cell? ⟨z1,0,none⟩=some (.pointer (some ⟨gs,0,none⟩)):=b1.cell 0;have s1:w2.cell? ⟨gs,1,none⟩=some (.slice RA n rc):=st2.cell 1;have f1:=st2.frz 1
 go_upto_region 3 with fail
 have k2:KpP (·=gs) w2 (w2.setCell ⟨gs,1,none⟩ (.slice none 0 0)):=KpP.set (p:=(·=gs)) (x:=⟨gs,1,none⟩) (KpP.refl _ _) (.inl rfl) _;have st3:Blk (w2.setCell ⟨gs,1,none⟩ (.slice none 0 0)) gs 126 (strC ⟨q.gm,none,0,0,N,bg,cl⟩ op):=by have:=st2.set 1 (.slice none 0 0);simpa[strC] using this
 have K2:=lh k2;have MA3:=lh (MA2.out.kpT k2 (fun b hb=>by
  have hb':b=gs:=hb;subst hb';exact⟨_,_,st2,by decide,by decide,by decide⟩))
 replace b1:=b1.far (p:=⟨gs,1,none⟩) hz1s (.slice none 0 0);replace b2:=b2.far (p:=⟨gs,1,none⟩) hz2s (.slice none 0 0);clear k2 c1 s1 f1;have HST2:=lh st2;clear st2;generalize w2.setCell ⟨gs,1,none⟩ (.slice none 0 0)=w3 at *;have HE0:=lh E0;have HI:Hid (AvI ⟨gs,gr,z1,z2,q,N,bg,cl,op,mark,rd+1,fv,A,R0,LA,lc,lrs,sts,F,w3⟩ w3 sts none 0 [] lrs []):=lh (by
  have hs3:w.heap.size<=w3.heap.size:=Nat.le_trans HE0.out.size (Nat.le_trans K1.out.size K2.out.size);have nG1:NoG w1 (·=q.gm):=fun b hb cs=>by
   have hb':b=q.gm:=hb;subst hb';exact⟨fun e=>blk_blk e HMA.out.blk de rfl,fun e=>blk_blk e HMA.out.blk de rfl⟩
  have nG2:NoG w2 (·=gs):=fun b hb cs=>by
   have hb':b=gs:=hb;subst hb';exact⟨fun e=>blk_blk e HST2.out de rfl,fun e=>blk_blk e HST2.out de rfl⟩
  have lw1:=OwnS.kp (OwnS.ext HLW.out HE0.out) K1.out (fun b hb e=>own_blk (OwnS.ext HLW.out HE0.out) HMA.out.blk de (by rw[hb,show b=q.gm from e]));have lw2:=OwnS.kp lw1 K2.out (fun b hb e=>own_blk lw1 HST2.out de (by rw[hb,show b=gs from e]));have r1:=HRS.out.1.ext HE0.out;have r1o:=OwnS.ext HRS.out.2 HE0.out;have r2:=K1.out.blk r1 (blk_blk r1 HMA.out.blk de);have r2o:=OwnS.kp r1o K1.out (fun b hb e=>own_blk r1o HMA.out.blk de (by rw[hb,show b=q.gm from e]));have r3:=K2.out.blk r2 (blk_blk r2 HST2.out de);have r3o:=OwnS.kp r2o K2.out (fun b hb e=>own_blk r2o HST2.out de (by rw[hb,show b=gs from e]));refine⟨rfl,b1,b2,by simpa[Av.hs,itsR,shutI] using st3,OwnS.nil _ _ _ _,by simp,lw2,fun b hb=>Nat.lt_of_lt_of_le (OwnS.blt HLW.out hb).1 hs3,⟨A,c,?_,.inl rfl⟩,MA3.out,rfl,fun z hz=>⟨?_,fun e=>?_⟩,fun i r hi=>by simp at hi,HRE.out,fun r hr=>?_,HND.out,HFR.out,fun x hx=>.inl hx,List.Perm.refl _,by simp,HDN.out,KpP.refl _ _⟩
  ·have e:R0++resI (Av.D ⟨gs,gr,z1,z2,q,N,bg,cl,op,mark,rd+1,fv,A,R0,LA,lc,lrs,sts,F,w3⟩) (itsR [])=R0:=by simp[itsR,resI,shutI,resOf]
   rw[e];exact⟨r3,r3o⟩
  ·have:=HSR.out z hz;show z.rd<=rd+1;omega
  ·have:=HSR.out z hz;have e':z.rd=rd+1:=e;omega
  ·exact Fo.At.kpT K2.out nG2 (Fo.At.kpT K1.out nG1 ((HGT.out r hr).ext HE0.out)))
 clear st3 b1 b2 hz1m hz2m hz1s hz2s E0 hwr hwr2
 go_upto_region 5 with fail
 go_loopw [25] (fun v wr=>∃(k:Nat) (sts':List Sta) (RA':Option Addr) (rc':Nat) (rs:List Ru),v=.int .i64 k/\k<=lrs.length/\Hid (AvI ⟨gs,gr,z1,z2,q,N,bg,cl,op,mark,rd+1,fv,A,R0,LA,lc,lrs,sts,F,w3⟩ wr sts' RA' rc' rs (lrs.drop k) (lrs.take k))) (fun v _=>lrs.length-(intOf v).toNat)
 case atStart=>exact⟨0,sts,none,0,[],rfl,om,by simpa using HI⟩
 case round=>
  obtain⟨k,sts',RA',rc',rs,rfl,hk,HIr⟩:=hrel;by_cases hlt:k<lrs.length
  ·have hkI:(k:Int)<lrs.length:=om;have hdr:lrs.drop k=lrs[k]::lrs.drop (k+1):=List.drop_eq_getElem_cons hlt;have htk:lrs.take (k+1)=lrs.take k++[lrs[k]]:=List.take_succ_eq_append_getElem hlt;obtain⟨lb,lo,hLA,hlc⟩:=OwnS.cells HIr.out.lw (by intro e;have:=flatR_len lrs;simp only at e;rw[e] at this;simp at this;omega);have hfg:=flatR_get (rs:=lrs) (i:=k) (r:=lrs[k]) (by simp[hlt]);obtain⟨hf1,hf2⟩:=List.getElem?_eq_some_iff.1 hfg.1;obtain⟨hf3,hf4⟩:=List.getElem?_eq_some_iff.1 hfg.2;have d0:=hlc (k*2) hf1;have d1:=hlc (k*2+1) hf3;simp only[hf2] at d0;simp only[hf4] at d1
   simp only at hLA
   have HDR:=lh hdr;have HTK:=lh htk;rw[hdr] at HIr;replace d1:wr.cell? ⟨lb,lo+k*2+1,none⟩=some (.pointer (some ⟨lrs[k].b,0,none⟩)):=d1;generalize lrs[k]=r at *;clear hf1 hf2 hf3 hf4 hfg hlc hdr htk;have ER:=Ext.alloc wr (.cells #[.pointer (some ⟨r.sb,0,none⟩),.pointer (some ⟨r.b,0,none⟩)] 140);have HKC:=lh (keepC_any ⟨gs,gr,z1,z2,q,N,bg,cl,op,mark,rd+1,fv,A,R0,LA,lc,lrs,sts,F,w3⟩ (fun b hb=>HNB.out b (Nat.le_trans (Nat.le_trans HE0.out.size (Nat.le_trans K1.out.size K2.out.size)) hb)) HB.out HR.out hop _ sts' RA' rc' rs r (lrs.drop (k+1)) (lrs.take k) (HIr.out.ext ER))
   rw[<-HTK.out] at HKC
   simp only at HKC
   subst hLA;clear HIr ER;have eg:∀args w,(callFunc 137 args).run Tryz.prog w=.ok (.enter 137 args) w:=enters_of Tryz.func137 kr rfl
   go_wp2_with (go_at_fn 137;refine HKC.out.mono ?_;rintro e w7 ⟨rfl,sts2,RA2,rc2,rs2,h7⟩)
   go_roundw
   case rel=>exact⟨k+1,sts2,RA2,rc2,rs2,by go_num,om,lh h7⟩
   case measure=>simp[intOf];omega
  ·have hkI:¬(k:Int)<lrs.length:=om;obtain rfl:k=lrs.length:=om;rw[List.drop_length,List.take_length] at HIr;have HF:Hid (AdO w wr F gs gr q N op mark rd bg cl fv sts lrs A R0):=lh (by
    obtain⟨hl,b1,b2,st,ow,rb,lw,lb,⟨A2,c2,hr,ha⟩,ma,ss,sl,rr,re,gt,nd,fr,fb,it,nl,dn,kp⟩:=HIr.out;rw[List.append_nil] at gt nd fr fb dn;have hs3:w.heap.size<=w3.heap.size:=Nat.le_trans HE0.out.size (Nat.le_trans K1.out.size K2.out.size);refine⟨⟨sts',RA',rc',rs,⟨st,ow,ma,fun z hz=>(sl z hz).1,fun r hr=>?_,gt,nd,fr,fg,fun b hb=>HNB.out b (Nat.le_trans hs3 (rb b hb)),nl,dn⟩,ss,it⟩,⟨A2,c2,hr,ha.imp id (fun h b hb=>Nat.le_trans hs3 (h b hb))⟩,?_⟩
    ·obtain⟨i,hi,he⟩:=List.getElem_of_mem hr;obtain⟨z,hz,h1,h2,_⟩:=rr i r (by rw[List.getElem?_eq_getElem hi,he]);exact⟨z,hz,h1,h2⟩
    ·refine KpP.trans (KpP.of_ext HE0.out) (KpP.trans (K1.out.mono (fun i hi=>.inl hi)) (KpP.trans (K2.out.mono (fun i hi=>.inr (.inl hi))) (kp.mono (fun i hi=>?_))));rcases hi with hi|hi|hi|hi|hi
     ·exact .inr (.inl hi)
     ·exact .inr (.inr (.inl hi))
     ·exact .inr (.inr (.inr (.inl hi)))
     ·exact .inr (.inr (.inr (.inr (.inl hi))))
     ·exact .inr (.inr (.inr (.inr (.inr hi)))))
   clear HIr
   go_wp2_with fail
   exact bodyPost_end (v:=.tuple #[]) (by simp[results,Tryz.results65,go_sem]) rfl ⟨rfl,HF.out⟩
end
section
open Go.RowKit
open Go.ChangeMaps (setBlock)
attribute [local go_sem ↓] Go.wp_at_zero Go.wp_at_succ
def setN (b:Nat)(nx:List (Int×Nat))(z:Sta):Sta:=if z.b=b then⟨z.b,z.A,z.c,z.l,z.gn,nx,z.rd,z.sl⟩ else z
theorem setN_same (b:Nat)(nx:List (Int×Nat))(y:Sta):(setN b nx y).b=y.b/\(setN b nx y).A=y.A/\(setN b nx y).c=y.c/\(setN b nx y).l=y.l/\(setN b nx y).gn=y.gn:=by
 unfold setN;split<;>simp
theorem setN_rd (b:Nat)(nx:List (Int×Nat))(y:Sta):(setN b nx y).rd=y.rd/\(setN b nx y).sl=y.sl:=by
 unfold setN;split<;>simp
theorem MaI.setN {w w':World}{F:Nat->Prop}{q:Mq}{mark rd:Int}{fv:Value}{sts:List Sta}(h:MaI w F q mark rd fv sts){z:Sta}(hz:z∈sts){nx:List (Int×Nat)}(k:KpP (·=z.gn) w w')(hm:MapAt w' z.gn (Value.int .i64) ptrV nx)
 (hx:∀kb∈nx,∃u∈sts,u.b=kb.2/\∀x,clsX q.cd.cuts x=kb.1->nextG (insL q.cd.hs) z.l x=u.l):MaI w' F q mark rd fv (sts.map (setN z.b nx)):=by
 obtain⟨bm,⟨ms,bM,hl,hms⟩,sq,fm,fM⟩:=h;have hzm:=(sq.at_ z hz).mp;have hgS:q.gS≠z.gn:=fun e=>by
  have hmem:(keyS z.l,z.b)∈skey sts:=List.mem_map.2 ⟨z,hz,rfl⟩;obtain⟨es,cl,h1,h2,_⟩:=sq.map;obtain⟨es',cl',h1',h2',_⟩:=hzm
  rw[<-e,h1] at h1';injection h1' with h1'
  injection h1' with h1' _
  subst h1';rw[h2] at h2'
  cases hs:skey sts with
  | nil=>rw[hs] at hmem;cases hmem
  | cons a r=>
   rw[hs] at h2'
   cases hn:z.nx with
   | nil=>rw[hn] at h2';simp at h2'
   | cons p t=>
    rw[hn] at h2';simp only[List.map_cons,List.cons.injEq,Prod.mk.injEq] at h2';exact absurd h2'.1.1 si
 refine⟨k.blk bm (fun e=>hzm.ne bm e.symm),⟨ms,k.blk bM (fun e=>hzm.ne bM e.symm),hl,hms⟩,sq.upd _ (setN_same z.b nx) (sq.map.kp k hgS) (fun y hy=>?_) (fun y hy kb hkb=>?_),fm,fM⟩
 ·have ay:=sq.at_ y hy;by_cases e:y.b=z.b
  ·have:=sq.inj y hy z hz (.inl e);subst this;unfold Go.Proofs.YtmgpefenkilffaaGreat.setN;rw[if_pos rfl];exact⟨k.blk ay.blk (fun e=>hzm.ne ay.blk e.symm),IL.kp ay.il k (fun _ b hb e=>by
    obtain⟨cur,hh⟩:=ay.ty b hb;exact hzm.ne (show Blk w b _ cur from hh) (show b=y.gn from e).symm),fun b hb=>by
    obtain⟨cur,hh⟩:=ay.ty b hb;exact⟨cur,(k.block b (Array.getElem?_eq_some_iff.1 hh).1 (fun e=>hzm.ne (show Blk w b _ cur from hh) (show b=y.gn from e).symm)).trans hh⟩,hm⟩
  ·unfold Go.Proofs.YtmgpefenkilffaaGreat.setN;rw[if_neg e];exact ay.kp k (fun e2=>hzm.ne ay.blk (show y.b=z.gn from e2).symm) (fun e2=>e (by rw[sq.inj y hy z hz (.inr (.inl e2))])) (fun b hb e2=>by
    obtain⟨cur,hh⟩:=ay.ty b hb;exact hzm.ne (show Blk w b _ cur from hh) (show b=z.gn from e2).symm)
 ·by_cases e:y.b=z.b
  ·have:=sq.inj y hy z hz (.inl e);subst this;unfold Go.Proofs.YtmgpefenkilffaaGreat.setN at hkb;rw[if_pos rfl] at hkb;exact hx kb hkb
  ·unfold Go.Proofs.YtmgpefenkilffaaGreat.setN at hkb;rw[if_neg e] at hkb;exact sq.nx y hy kb hkb
structure StsK (sts sts':List Sta):Prop where
 old:∀u∈sts,∃u'∈sts',u'.b=u.b/\u'.l=u.l/\u'.rd=u.rd/\u'.sl=u.sl
 new:∀u'∈sts',(∃u∈sts,u.b=u'.b/\u.l=u'.l/\u.rd=u'.rd/\u.sl=u'.sl)\/u'.rd=0
 len:sts'.length<=sts.length+1
theorem StsK.rfl' (sts:List Sta):StsK sts sts:=⟨fun u h=>⟨u,h,rfl,rfl,rfl,rfl⟩,fun u h=>.inl ⟨u,h,rfl,rfl,rfl,rfl⟩,om⟩
theorem StsK.snoc {sts:List Sta}{z:Sta}(hz:z.rd=0):StsK sts (sts++[z]):=
 ⟨fun u h=>⟨u,by simp[h],rfl,rfl,rfl,rfl⟩,fun u h=>by
  rcases List.mem_append.1 h with h|h
  ·exact .inl ⟨u,h,rfl,rfl,rfl,rfl⟩
  ·rw[List.mem_singleton.1 h];exact .inr hz,by simp⟩
theorem StsK.setN {sts sts':List Sta}(h:StsK sts sts')(b:Nat)(nx:List (Int×Nat)):StsK sts (sts'.map (setN b nx)):=
 ⟨fun u hu=>by
  obtain⟨v,hv,h1,h2,h3,h4⟩:=h.old u hu;have e1:=setN_same b nx v;have e2:=setN_rd b nx v;exact⟨_,List.mem_map.2 ⟨v,hv,rfl⟩,by rw[e1.1];exact h1,by rw[e1.2.2.2.1];exact h2,by rw[e2.1];exact h3,by rw[e2.2];exact h4⟩,fun u hu=>by
  obtain⟨v,hv,rfl⟩:=List.mem_map.1 hu;have e1:=setN_same b nx v;have e2:=setN_rd b nx v;rw[e1.1,e1.2.2.2.1,e2.1,e2.2];exact h.new v hv,by rw[List.length_map];exact h.len⟩
theorem mem_putL {α β:Type}[DecidableEq α]{l:List (α×β)}{x:α}{v:β}{p:α×β}(h:p∈putL l x v):p∈l\/p=(x,v):=by
 unfold putL at h
 split at h
 ·obtain⟨y,hy,h1⟩:=List.mem_map.1 h
  split at h1
  ·exact .inr (by rw[<-h1])
  ·exact .inl (h1▸hy)
 ·rcases List.mem_append.1 h with h|h
  ·exact .inl h
  ·exact .inr (List.mem_singleton.1 h)
def AfF (q:Mq)(gn:Nat)(b:Nat):Prop:=b=q.gm\/b=q.gM\/b=q.gS\/b=gn
structure AfO (F:Nat->Prop)(q:Mq)(sts:List Sta)(z:Sta)(mark rd:Int)(fv:Value)(x:Int)(w w':World)(yb:Nat):Prop where
 ex:∃(y:Sta) (sts':List Sta) (mark':Int),y∈sts'/\y.b=yb/\y.l=nextG (insL q.cd.hs) z.l x/\StsK sts sts'/\mark<=mark'/\mark'<=mark+1/\MaI w' (gF F w w') q mark' rd fv sts'
 kp:KpP (AfF q z.gn) w w'
def RetAf (F:Nat->Prop)(q:Mq)(sts:List Sta)(z:Sta)(mark rd:Int)(fv:Value)(x:Int)(w:World)(e:Ending)(w':World):Prop:=∃yb,e=.returned (ptrV yb)/\AfO F q sts z mark rd fv x w w' yb
theorem MaI.mono {w:World}{F F':Nat->Prop}{q:Mq}{mark rd:Int}{fv:Value}{sts:List Sta}(h:MaI w F q mark rd fv sts)(hF:∀b,F b->F' b):MaI w F' q mark rd fv sts:=⟨h.blk,h.mks,h.sq.mono hF,hF _ h.fm,hF _ h.fM⟩
theorem filter_natsI (G:List Ins)(x:Int)(l:St)(k:Nat)(hk:k<l.length):natsI (((l.take (k+1)).filter (symAt G x)).map (·+1))=natsI (((l.take k).filter (symAt G x)).map (·+1))++(if symAt G x l[k]=true then[((l[k]:Int)+1)] else[]):=by
 rw[List.take_succ_eq_append_getElem hk,List.filter_append];by_cases h:symAt G x l[k]=true
 ·simp[h,natsI]
 ·simp[h,natsI]
theorem sym_lt {runes:Bool}{caps:Int}{G:List Ins}(hG:GOk runes caps G){x:Int}{i:Nat}(h:symAt G x i=true):i+1<G.length:=by
 unfold symAt at h
 cases hi:G[i]? with
 | none=>rw[hi] at h;simp at h
 | some a=>
  rw[hi] at h;simp only[Bool.and_eq_true,decide_eq_true_eq] at h;have hlt:=(List.getElem?_eq_some_iff.1 hi).1;have he:=(List.getElem?_eq_some_iff.1 hi).2;refine Classical.byContradiction fun hn=>?_;have h1:i=G.length-1:=om;subst h1;have:=hG.last hlt;rw[he] at this;omega
theorem safter_any (w:World)(F:Nat->Prop)(q:Mq)(runes:Bool)(caps:Int)(hG:GOk runes caps (insL q.cd.hs))(mark rd:Int)(fv:Value)(sts:List Sta)(hmk:0<=mark/\mark<=1000000000)(hM:MaI w F q mark rd fv sts)
 (hC:∀w',KpP F w w'->CdAt w' q.gc q.cd) (hok:CdOk q.cd) (z:Sta) (hz:z∈sts) (x:Int) :
 Calls Tryz.prog 141 #[ptrV q.gm,ptrV z.b,.int .i64 x] w (RetAf F q sts z mark rd fv x w):=by
 have hcd:=hC w (KpP.refl _ _);have az:=hM.sq.at_ z hz;have HM:=lh hM;have HC:=lh hC;have HOK:=lh hok;have HAZ:=lh az;have q0:w.cell? ⟨q.gm,0,none⟩=some (ptrV q.gc):=hM.blk.cell 0;have z3:w.cell? ⟨z.b,3,none⟩=some (.map (some z.gn)):=az.blk.cell 3;have HCL:=lh (sclass_any q.gc q.cd x w hcd hok.up hok.few);have HLT:=lh (hM.sq.lt z hz);have hzl:z.l.length<=10000:=hM.sq.sh z hz;obtain⟨cx,hcx⟩:∃c,Hid (c=clsX q.cd.cuts x):=⟨_,lh rfl⟩
 rw[<-hcx.out] at HCL;have HNX:=lh (fun(b:Nat) (h:at? z.nx cx=some b)=>show ∃y∈sts,y.b=b/\y.l=nextG (insL q.cd.hs) z.l x by
  unfold at? at h;rw[Option.map_eq_some_iff] at h;obtain⟨p,hp,rfl⟩:=h;have h1:=List.find?_some hp;obtain⟨y,hy,h2,h3⟩:=hM.sq.nx z hz p (List.mem_of_find?_eq_some hp);exact⟨y,hy,h2,(h3 x (by rw[<-hcx.out];exact(by simpa using h1:p.1=cx).symm)).symm⟩)
 clear hM hC hok az hcd;go_enter Tryz.func141,Tryz.ntmps141
 go_upto_region 1 with fail
 go_upto_region 2 with fail
 refine HCL.out.mono ?_;rintro e w1 ⟨rfl,x1⟩;replace z3:=x1.cell z3;have HLK:=((HAZ.out.mp.ext x1).look (int_klaw Tryz.underlying3) Tryz.underlying147 (zSta w1) cx).2;obtain⟨r,hr⟩:∃r,at? z.nx cx=r:=⟨_,rfl⟩;rw[hr] at HLK HNX
 cases r with
 | some b=>
  obtain⟨y,hy,rfl,hyl⟩:=HNX.out b rfl;simp only[Option.map_some,Option.getD_some,Option.isSome_some] at HLK;clear HNX hr
  go_wp2_with fail
  go_ret
  exact⟨y.b,rfl,⟨y,sts,mark,hy,rfl,hyl,StsK.rfl' _,om,om,(HM.out.ext x1).mono (fun b hb=>.inl hb)⟩,KpP.of_ext x1⟩
 | none=>
  simp only[Option.map_none,Option.getD_none,Option.isSome_none] at HLK;have HNO:=lh hr;clear HNX hr;have z0:w1.cell? ⟨z.b,0,none⟩=some (.slice z.A z.l.length z.c):=(HAZ.out.blk.ext x1).cell 0;obtain⟨iI,jI0,jI1,jI2,jI3⟩:=info_parts infoNk;have hwsz:=x1.size;have HGF:=lh hG
  go_upto_region 7 with fail
  go_loopw [10,36] (fun v10 v36 wr=>∃(k:Nat) (B:Option Addr) (d:Nat) (fs:List Int),v36=.int .i64 k/\k<=z.l.length/\v10=.slice B fs.length d/\Hid (fs=natsI (((z.l.take k).filter (symAt (insL q.cd.hs) x)).map (·+1))/\fs.length<=k)/\Hid (OwnS wr w1.heap.size 3 1 B fs.length d (fs.map (Value.int .i64)))/\Hid (Ext w1 wr)) (fun _ v _=>z.l.length-(intOf v).toNat)
  case atStart=>exact⟨0,none,0,[],rfl,om,rfl,lh ⟨rfl,by simp⟩,lh (OwnS.nil _ _ _ _),lh (Ext.rfl' _)⟩
  case round=>
   obtain⟨k,B,d,fs,rfl,hk,rfl,HFS,HB,HX⟩:=hrel;clear z0 z3 HLK;by_cases hlt:k<z.l.length
   ·have hkI:(k:Int)<z.l.length:=om;obtain⟨fb,fo,hA,cf⟩:=((HAZ.out.il.ext x1).ext HX.out).get (k:=k) (by rw[natsI_len];exact hlt);have hnv:(natsI z.l)[k]'(by rw[natsI_len];exact hlt)=(z.l[k]:Int):=by simp[natsI]
    rw[hnv] at cf;have hcr:=HC.out wr (KpP.of_ext (x1.trans HX.out));have g0:wr.cell? ⟨q.gc,0,none⟩=some (.slice q.cd.A q.cd.hs.length q.cd.c):=hcr.blk.cell 0;have q0r:=(x1.trans HX.out).cell q0;have hin:=HLT.out _ (List.getElem_mem hlt);have hinI:((z.l[k]:Nat):Int)<q.cd.hs.length:=om;obtain⟨ib,io,hiA,o0,o1,o2,o3,o4⟩:=hcr.pl.get hin;have hcdl:=hcr.pl.len;have hsl:=hcr.pl.sl _ (List.getElem_mem hin);have HFN:=lh (filter_natsI (insL q.cd.hs) x z.l k hlt);have hsy:symAt (insL q.cd.hs) x z.l[k]=(decide (q.cd.hs[z.l[k]].op=1)&&has q.cd.hs[z.l[k]].l x):=by
     unfold symAt;rw[insL_get hin]
     rfl
    rw[hsy] at HFN;rw[hiA] at g0;have HSH:=lh (sHas_any _ _ _ x wr hsl);rw[hA];clear hcr hsl hiA hnv hsy o1 o2 o3 hA;generalize q.cd.hs[z.l[k]]=h at *;generalize z.l[k]=i at *;obtain⟨hop,hx,hy,hn,hhA,hc,hl⟩:=h
    simp only at o0 o4 HSH HFN
    by_cases hp:hop=1
    ·subst hp;obtain⟨bb,hbb⟩:∃b,b=has hl x:=⟨_,rfl⟩
     rw[<-hbb] at HSH HFN;have HFN2:Hid (natsI (((z.l.take (k+1)).filter (symAt (insL q.cd.hs) x)).map (·+1))=fs++(if bb=true then[((i:Int)+1)] else[])):=lh (by rw[HFN.out,<-HFS.out.1];simp);clear hbb HFN;cases bb
     ·have HF2:=lh (show natsI (((z.l.take (k+1)).filter (symAt (insL q.cd.hs) x)).map (·+1))=fs by have:=HFN2.out;simpa using this);clear HFN2
      go_wp2_with (go_at_call 171;refine HSH.out.mono ?_;rintro e w7 ⟨rfl,x7⟩)
      go_roundw
      case rel=>exact⟨k+1,B,d,fs,by go_num,om,rfl,lh ⟨HF2.out.symm,by have:=HFS.out.2;omega⟩,lh (OwnS.ext HB.out x7),lh (HX.out.trans x7)⟩
      case measure=>simp[intOf];omega
     ·have HF2:=lh (show natsI (((z.l.take (k+1)).filter (symAt (insL q.cd.hs) x)).map (·+1))=fs++[((i:Int)+1)] by have:=HFN2.out;simpa using this);clear HFN2;have hw:IntKind.i64.wrap ((i:Int)+1)=(i:Int)+1:=by rw[IntKind.wrap_i64];have:=hcdl.1;have:=hcdl.2;omega
      have hfl:=HFS.out.2
      go_upto_region 10 with(go_at_call 171;refine HSH.out.mono ?_;rintro e w7 ⟨rfl,x7⟩)
      have HB7:=lh (OwnS.ext HB.out x7);have hw17:=(HX.out.trans x7).size;have HX7:=lh (HX.out.trans x7);clear HB HX x7
      go_wp2_with ((at_builtin;refine wpList_app _ rfl _ _ _ rfl w1.heap.size 3 iI (.int .i64 0) 1 8 Tryz.underlying22 jI0 jI1 jI2 jI3 rfl om B fs.length d (fs.map (Value.int .i64)) rfl (OwnS.ext HB7.out (Ext.alloc _ _)) _ 1 1 [.int .i64 ((i:Int)+1)] rfl rfl (blk_cells (Blk.new _ _ _)) (by intro u hu;rw[List.mem_singleton.1 hu];rfl) um om (Nat.le_trans hw17 (Ext.alloc _ _).size) ?_;intro A8 d8 w8 ho8 hg8 hat8))
      have HX8:=lh ((HX7.out.trans (Ext.alloc _ (.cells #[.int .i64 ((i:Int)+1)] 3))).grown hg8 (fun j hj=>OwnS.row HB7.out _ hj));have HB8:=lh (show OwnS w8 w1.heap.size 3 1 A8 (fs++[((i:Int)+1)]).length d8 ((fs++[((i:Int)+1)]).map (Value.int .i64)) by
       rw[List.length_append,List.map_append];exact ho8)
      have hlen8:fs.length+1=(fs++[((i:Int)+1)]).length:=by simp
      go_roundw
      case rel=>exact⟨k+1,A8,d8,fs++[((i:Int)+1)],by go_num,om,by rw[<-hlen8],lh ⟨HF2.out.symm,by rw[<-hlen8];omega⟩,HB8,HX8⟩
      case measure=>simp[intOf];omega
    ·have hp2:(hop == 1)=false:=by simp[hp]
     have HF2:=lh (show natsI (((z.l.take (k+1)).filter (symAt (insL q.cd.hs) x)).map (·+1))=fs by have:=HFN.out;rw[<-HFS.out.1] at this;simpa[hp] using this);clear HFN hp
     go_wp2_with fail
     go_roundw
     case rel=>exact⟨k+1,B,d,fs,by go_num,om,rfl,lh ⟨HF2.out.symm,by have:=HFS.out.2;omega⟩,HB,HX⟩
     case measure=>simp[intOf];omega
   ·have hkI:¬(k:Int)<z.l.length:=om;obtain rfl:k=z.l.length:=om;rw[List.take_length] at HFS
    go_upto_region 12 with fail
    obtain⟨fsN,hfN⟩:∃fsN,fsN=(z.l.filter (symAt (insL q.cd.hs) x)).map (·+1):=⟨_,rfl⟩;have HFN:=lh (show fs=natsI fsN by rw[hfN];exact HFS.out.1);have hfl:fs.length=fsN.length:=by rw[HFN.out,natsI_len]
    have hfs:∀i∈fsN,i<q.cd.hs.length:=fun i hi=>by
     rw[hfN] at hi;obtain⟨j,hj,rfl⟩:=List.mem_map.1 hi;have:=sym_lt HGF.out (List.mem_filter.1 hj).2
     rwa [insL_len] at this
    have hgmw:=HM.out.blk.lt;have hgMw:q.gM<w.heap.size:=by obtain⟨ms,bM,_⟩:=HM.out.mks;exact bM.lt
    have hn8:=HGF.out.len;rw[insL_len] at hn8;have HRE:=lh (show Calls Tryz.prog 129 #[ptrV q.gm,.slice B fs.length d] wr (RetRe F q sts mark rd fv (nextG (insL q.cd.hs) z.l x) wr) by
     rw[hfl];have hnx:nextG (insL q.cd.hs) z.l x=stateG (insL q.cd.hs) fsN:=by rw[hfN];rfl
     rw[hnx];refine sreach_any wr F q runes caps HGF.out mark rd fv sts hmk (HM.out.ext (x1.trans HX.out)) (fun w' k=>HC.out w' (KpP.trans (KpP.of_ext (x1.trans HX.out)) (k.mono (fun i hi=>by rcases hi with rfl|rfl;exact HM.out.fm;exact HM.out.fM)))) HOK.out.ls B d fsN (fun w' k=>?_) hfs;have hO:=OwnS.kp HB.out k (fun b hb h=>by
      have:=OwnS.row HB.out b hb;rcases h with h|h<;>omega)
     rw[HFN.out] at hO;exact IL.of_own (base:=w1.heap.size) hO (fun v hv=>by
      obtain⟨j,hj,rfl⟩:=List.mem_map.1 hv;have:=hfs j hj;unfold I64;omega))
    clear hfN HFN HFS hfl hfs hgmw hgMw;have q0r:=(x1.trans HX.out).cell q0
    go_wp2_with fail
    refine HRE.out.mono ?_;rintro e w5 ⟨y,sts1,rfl,hy,hyl,hst,hMa,hk⟩;have hz1:z∈sts1:=by
     rcases hst with h|⟨h,_⟩<;>rw[h]
     ·exact hz
     ·exact List.mem_append_left _ hz
    have az5:=hMa.sq.at_ z hz1;have z35:w5.cell? ⟨z.b,3,none⟩=some (.map (some z.gn)):=az5.blk.cell 3;obtain⟨o,ho1,hM9⟩:=az5.mp.put (int_klaw Tryz.underlying3) Tryz.underlying147 cx y.b;have kS:=kp_setBlock w5 z.gn o;have HR:Hid (RetAf F q sts z mark rd fv x w (.returned (ptrV y.b)) (setBlock w5 z.gn o)):=lh (by
     have hsts:StsK sts sts1:=by
      rcases hst with h|⟨h,h0⟩<;>rw[h]
      ·exact StsK.rfl' _
      ·exact StsK.snoc h0
     have hm:=hMa.setN hz1 kS hM9 (fun kb hkb=>by
      rcases mem_putL hkb with h|h
      ·exact hMa.sq.nx z hz1 kb h
      ·subst h;refine⟨y,hy,rfl,fun v hv=>?_⟩;rw[hyl];exact HOK.out.next (by rw[hv,<-hcx.out]) z.l)
     have e1:=setN_same z.b (putL z.nx cx y.b) y;refine⟨y.b,rfl,⟨_,_,mark+1,List.mem_map.2 ⟨y,hy,rfl⟩,e1.1,by rw[e1.2.2.2.1];exact hyl,hsts.setN _ _,om,Int.le_refl _,hm.mono (fun b hb=>?_)⟩,?_⟩
     ·have hs1:=(x1.trans HX.out).size;have hs2:=kS.size;rcases hb with hb|hb
      ·exact .inl hb
      ·exact .inr ⟨om,om⟩
     ·refine KpP.trans (KpP.of_ext (x1.trans HX.out)) (KpP.trans (hk.mono (fun i hi=>?_)) (kS.mono (fun i hi=>.inr (.inr (.inr hi)))));rcases hi with hi|hi|hi
      ·exact .inl hi
      ·exact .inr (.inl hi)
      ·exact .inr (.inr (.inl hi)))
    clear hM9 kS hMa az5 hk hst hz1 HRE
    go_wp2_with fail
    go_ret
    exact HR.out
theorem sforget_any (w:World)(F:Nat->Prop)(q:Mq)(mark rd:Int)(fv:Value)(sts:List Sta)(hM:MaI w F q mark rd fv sts)(hl:sts.length<=4096)(A:Option Addr)(n c:Nat) :
 Calls Tryz.prog 140 #[ptrV q.gm,.slice A n c] w (RetV (.tuple #[]) w):=by
 have q1:w.cell? ⟨q.gm,1,none⟩=some (.map (some q.gS)):=hM.blk.cell 1;obtain⟨es,clk,hh,hsz⟩:=hM.sq.map.len;have hsl:es.size=sts.length:=by rw[hsz];simp[skey]
 have hes:es.size<=4096:=om;have hesI:(es.size:Int)<=4096:=om;have hmk:(Builtin.len_ #[131] 3 #[Value.map (some q.gS)]).run Tryz.prog w=.ok (.int .i64 es.size) w:=by
  exact Go.run_len_map (t:=131) (ty:=3) (r:=q.gS) (es:=es) (clock:=clk) (h:=by kernel_rfl) (hb:=hh)
 clear hsz hsl hM;go_enter Tryz.func140,Tryz.ntmps140
 go_wp2_with fail
 exact bodyPost_end (v:=.tuple #[]) (by simp[results,Tryz.results140,go_sem]) rfl ⟨rfl,Ext.rfl' _⟩
end
section
open Go.RowKit
theorem grp_fp (b:Nat)(p e:Int)(A:Option Addr)(c:Nat)(k:Fo):(grp b p e A c k).fp=b::(blkL A++k.fp):=by simp[grp,Fo.fp]
theorem Fo.At.setE {w w':World}{b:Nat}{p e:Int}{A:Option Addr}{c:Nat}{k:Fo}(h:(grp b p e A c k).At w)(hn:(grp b p e A c k).fp.Nodup)(kp:KpP (·=b) w w'){N:Int}(hb:Blk w' b 250 #[.int .i64 p,.int .i64 N,.slice A k.len c])(h0:0<=N)(hN:I64 N):(grp b p N A c k).At w':=by
 obtain⟨g,o,pk,hp,he,ip,ie,hk,_⟩:=h;rw[grp_fp,List.nodup_cons] at hn;exact⟨hb,OwnS.kp o kp (fun x hx h=>hn.1 (by rw[<-show x=b from h];exact List.mem_append_left _ (mem_blkL.2 hx))),pk,hp,om,ip,hN,hk.kp kp (fun x hx h=>hn.1 (by rw[<-show x=b from h];exact List.mem_append_right _ hx)),trivial⟩
theorem pos_setE (b:Nat)(p e:Int)(A:Option Addr)(c:Nat)(k:Fo){N:Int}(h0:0<=N):(grp b p N A c k).pos (-1)=((grp b p e A c k).pos (-1)).map (fun x=>(x.1,N)):=by
 have h1:(grp b p N A c k).pos (-1)=(grp b p e A c k).pos N:=by
  rw[grp_pos,grp_pos];have:¬N<0:=om;simp[this]
 rw[h1,Fo.pos_later h0]
structure StsC (sts sts':List Sta)(k:Nat):Prop where
 old:∀u∈sts,∃u'∈sts',u'.b=u.b/\u'.l=u.l/\u'.rd=u.rd/\u'.sl=u.sl
 new:∀u'∈sts',(∃u∈sts,u.b=u'.b/\u.l=u'.l/\u.rd=u'.rd/\u.sl=u'.sl)\/u'.rd=0
 len:sts'.length<=sts.length+k
theorem StsC.rfl' (sts:List Sta):StsC sts sts 0:=⟨fun u h=>⟨u,h,rfl,rfl,rfl,rfl⟩,fun u h=>.inl ⟨u,h,rfl,rfl,rfl,rfl⟩,om⟩
theorem StsC.step {a b c:List Sta}{k:Nat}(h:StsC a b k)(s:StsK b c):StsC a c (k+1):=
 ⟨fun u hu=>by
  obtain⟨v,hv,h1,h2,h3,h4⟩:=h.old u hu;obtain⟨y,hy,g1,g2,g3,g4⟩:=s.old v hv;exact⟨y,hy,g1.trans h1,g2.trans h2,g3.trans h3,g4.trans h4⟩,fun y hy=>by
  rcases s.new y hy with⟨v,hv,g1,g2,g3,g4⟩|h0
  ·rcases h.new v hv with⟨u,hu,h1,h2,h3,h4⟩|h0
   ·exact .inl ⟨u,hu,h1.trans g1,h2.trans g2,h3.trans g3,h4.trans g4⟩
   ·exact .inr (by rw[<-g3];exact h0)
  ·exact .inr h0,by have:=h.len;have:=s.len;omega⟩
structure Sq where
 F:Nat->Prop
 gs:Nat
 gr:Nat
 q:Mq
 RA:Option Addr
 rc:Nat
 N:Int
 op:Int
 rd:Int
 bg:Bool
 cl:Bool
 fv:Value
 sts:List Sta
 rs:List Ru
 A:Option Addr
 c:Nat
 R0:List (Int×Int)
 x:Int
 mark:Int
 w0:World
structure SqP (P:Sq)(w:World)(k:Nat)(sts:List Sta)(mark:Int)(nrs:List Ru)(B:Option Addr)(d:Nat):Prop where
 st:Blk w P.gs 126 (strC ⟨P.q.gm,P.RA,P.rs.length,P.rc,P.N,P.bg,P.cl⟩ P.op)
 ow:OwnS w 0 140 2 P.RA P.rs.length P.rc (flatR P.rs)
 nw:OwnS w P.w0.heap.size 140 2 B nrs.length d (flatR nrs)
 ol:∀b,P.RA.map (·.block)=some b->b<P.w0.heap.size
 ma:MaI w P.F P.q mark P.rd P.fv sts
 mq:P.mark<=mark/\mark<=P.mark+k
 sk:StsC P.sts sts k
 re:∀r∈nrs,∃z∈sts,z.b=r.sb/\z.l=r.l
 gt:∀r∈nrs++P.rs.drop k,r.f.At w
 ln:nrs.length=k
 fp:fpR nrs=fpR (P.rs.take k)
 it:itsR nrs=(itsR (P.rs.take k)).map (movI (insL P.q.cd.hs) P.N P.x)
 dn:∀r∈nrs,doneG (insL P.q.cd.hs) r.l=true->∀x∈r.f.pos (-1),x.2=P.N
 res:RsAt w P.gr P.A P.c P.R0
 kp:KpP P.F P.w0 w
variable {P:Sq} {w w2 w3 w4 w5:World} {k:Nat} {sts:List Sta} {mark:Int} {nrs:List Ru} {B:Option Addr} {d:Nat}
theorem SqP.ext (h:SqP P w k sts mark nrs B d)(x:Ext w w2):SqP P w2 k sts mark nrs B d:=by
 obtain⟨st,ow,nw,ol,ma,mk,sk,re,gt,ln,fp,it,dn,res,kp⟩:=h;exact⟨st.ext x,OwnS.ext ow x,OwnS.ext nw x,ol,ma.ext x,mk,sk,re,fun r hr=>(gt r hr).ext x,ln,fp,it,dn,⟨res.1.ext x,OwnS.ext res.2 x⟩,kp.trans (KpP.of_ext x)⟩
theorem af_ne {F:Nat->Prop}{q:Mq}{rd:Int}{fv:Value}{z:Sta}(ma:MaI w F q mark rd fv sts)(hz:z∈sts){g T:Nat}{cs:Array Value}(hb:Blk w g T cs)(h1:T≠134)(h2:T≠3):¬AfF q z.gn g:=fun h=>by
 obtain⟨bm,⟨ms,bM,_⟩,sq,_,_⟩:=ma;rcases h with rfl|rfl|rfl|rfl
 ·exact blk_blk hb bm h1 rfl
 ·exact blk_blk hb bM h2 rfl
 ·exact sq.map.ne hb rfl
 ·exact(sq.at_ z hz).mp.ne hb rfl
theorem af_own {F:Nat->Prop}{q:Mq}{rd:Int}{fv:Value}{z:Sta}(ma:MaI w F q mark rd fv sts)(hz:z∈sts){base e size n c:Nat}{A:Option Addr}{xs:List Value}(ho:OwnS w base e size A n c xs)(h1:e≠134)(h2:e≠3):∀b,A.map (·.block)=some b->¬AfF q z.gn b:=fun b hb=>by
 obtain⟨_,cur,hh⟩:=OwnS.blt ho hb;exact af_ne ma hz (show Blk w b e cur from hh) h1 h2
theorem af_F {F:Nat->Prop}{q:Mq}{rd:Int}{fv:Value}{z:Sta}(ma:MaI w F q mark rd fv sts)(hz:z∈sts){b:Nat}(h:AfF q z.gn b):F b:=by
 rcases h with rfl|rfl|rfl|rfl
 ·exact ma.fm
 ·exact ma.fM
 ·exact ma.sq.fS
 ·exact(ma.sq.fz z hz).2.1
structure SqM (P:Sq)(w:World)(k:Nat)(sts:List Sta)(mark:Int)(nrs:List Ru)(B:Option Addr)(d:Nat)(yb:Nat)(nl:St):Prop where
 st:Blk w P.gs 126 (strC ⟨P.q.gm,P.RA,P.rs.length,P.rc,P.N,P.bg,P.cl⟩ P.op)
 ow:OwnS w 0 140 2 P.RA P.rs.length P.rc (flatR P.rs)
 nw:OwnS w P.w0.heap.size 140 2 B nrs.length d (flatR nrs)
 ol:∀b,P.RA.map (·.block)=some b->b<P.w0.heap.size
 ma:MaI w P.F P.q mark P.rd P.fv sts
 mq:P.mark<=mark/\mark<=P.mark+(k+1)
 sk:StsC P.sts sts (k+1)
 re:∀r∈nrs,∃z∈sts,z.b=r.sb/\z.l=r.l
 gt:∀r∈nrs++P.rs.drop k,r.f.At w
 ln:nrs.length=k
 fp:fpR nrs=fpR (P.rs.take k)
 it:itsR nrs=(itsR (P.rs.take k)).map (movI (insL P.q.cd.hs) P.N P.x)
 dn:∀r∈nrs,doneG (insL P.q.cd.hs) r.l=true->∀x∈r.f.pos (-1),x.2=P.N
 res:RsAt w P.gr P.A P.c P.R0
 kp:KpP P.F P.w0 w
 ye:∃y∈sts,y.b=yb/\y.l=nl
theorem SqM.ext {yb:Nat}{nl:St}(h:SqM P w k sts mark nrs B d yb nl)(x:Ext w w2):SqM P w2 k sts mark nrs B d yb nl:=by
 obtain⟨st,ow,nw,ol,ma,mk,sk,re,gt,ln,fp,it,dn,res,kp,ye⟩:=h;exact⟨st.ext x,OwnS.ext ow x,OwnS.ext nw x,ol,ma.ext x,mk,sk,re,fun r hr=>(gt r hr).ext x,ln,fp,it,dn,⟨res.1.ext x,OwnS.ext res.2 x⟩,kp.trans (KpP.of_ext x),ye⟩
theorem SqP.aft (h:SqP P w k sts mark nrs B d)(hnb:∀b,P.w0.heap.size<=b->P.F b){z:Sta}(hz:z∈sts){yb:Nat}(ho:AfO P.F P.q sts z mark P.rd P.fv P.x w w2 yb):∃sts2 mark2,SqM P w2 k sts2 mark2 nrs B d yb (nextG (insL P.q.cd.hs) z.l P.x):=by
 obtain⟨st,ow,nw,ol,ma,mk,sk,re,gt,ln,fp,it,dn,res,kp⟩:=h;obtain⟨⟨y,sts2,mark2,hy,hyb,hyl,hk,hm1,hm2,hma⟩,kk⟩:=ho;have ng:NoG w (AfF P.q z.gn):=fun b hb cs=>⟨fun e=>af_ne ma hz (show Blk w b _ cs from e) de de hb,fun e=>af_ne ma hz (show Blk w b _ cs from e) de de hb⟩;refine⟨sts2,mark2,kk.blk st (af_ne ma hz st de de),OwnS.kp ow kk (af_own ma hz ow de de),OwnS.kp nw kk (af_own ma hz nw de de),ol,hma.mono (fun b hb=>?_),⟨om,om⟩,sk.step hk,fun r hr=>?_,fun r hr=>Fo.At.kpT kk ng (gt r hr),ln,fp,it,dn,⟨kk.blk res.1 (af_ne ma hz res.1 de de),OwnS.kp res.2 kk (af_own ma hz res.2 de de)⟩,kp.trans (kk.mono (fun i hi=>af_F ma hz hi)),⟨y,hy,hyb,hyl⟩⟩
 ·rcases hb with hb|hb
  ·exact hb
  ·exact hnb b (Nat.le_trans kp.size hb.1)
 ·obtain⟨u,hu,h1,h2⟩:=re r hr;obtain⟨v,hv,g1,g2,_⟩:=hk.old u hu;exact⟨v,hv,g1.trans h1,g2.trans h2⟩
theorem SqM.snoc {yb:Nat}{nl:St}(h:SqM P w2 k sts mark nrs B d yb nl){r:Ru}(hkl:k<P.rs.length)(hr:P.rs[k]=r)(hnl:nl=nextG (insL P.q.cd.hs) r.l P.x)(hnb:∀b,P.w0.heap.size<=b->P.F b)(hN:0<=P.N)(nd:(fpR P.rs).Nodup)(hF:P.F r.b){e':Int}(he:e'=if doneG (insL P.q.cd.hs) nl=true then P.N else r.e)
 (k3:KpP (·=r.b) w2 w3) (ga:(grp r.b r.p e' r.A r.c r.k).At w3) {B':Option Addr} {d':Nat} (k4:KpP (fun b=>B.map (·.block)=some b) w3 w4) (nw4:OwnS w4 P.w0.heap.size 140 2 B' (nrs.length+1) d' (flatR nrs++[.pointer (some ⟨yb,0,none⟩),.pointer (some ⟨r.b,0,none⟩)])) :
 SqP P w4 (k+1) sts mark (nrs++[⟨yb,nl,r.b,r.p,e',r.A,r.c,r.k⟩]) B' d':=by
 obtain⟨st,ow,nw,ol,ma,mq,sk,re,gt,ln,fp,it,dn,res,kp,ye⟩:=h;have htk:P.rs.take (k+1)=P.rs.take k++[r]:=by rw[<-hr];exact List.take_succ_eq_append_getElem hkl
 have hdr:P.rs.drop k=r::P.rs.drop (k+1):=by rw[<-hr];exact List.drop_eq_getElem_cons hkl
 have gr:r.f.At w2:=gt r (by rw[hdr];simp);have rg:Blk w2 r.b 250 #[.int .i64 r.p,.int .i64 r.e,.slice r.A r.k.len r.c]:=gr.1;have ne3:∀{T cs g},Blk w2 g T cs->T≠250->g≠r.b:=fun hb hT=>blk_blk hb rg hT;have own3:∀{base e size n c A xs},OwnS w2 base e size A n c xs->e≠250->∀b,Option.map (fun a:Addr=>a.block) A=some b->¬b=r.b:=fun ho hT b hb e=>own_blk ho rg hT (by rw[hb,e]);have st3:=k3.blk st (ne3 st de);have ow3:=OwnS.kp ow k3 (own3 ow de);have nw3:=OwnS.kp nw k3 (own3 nw de);have r3:=k3.blk res.1 (ne3 res.1 de);have r3o:=OwnS.kp res.2 k3 (own3 res.2 de);have ma3:=ma.kpT k3 (fun b hb=>by
  have hb':b=r.b:=hb;subst hb';exact⟨_,_,rg,by decide,by decide,by decide⟩)
 have ne4:∀{T cs g},Blk w3 g T cs->T≠140->¬(B.map (·.block)=some g):=fun hb hT e=>own_blk nw3 hb hT.symm e;have gN:NoG w3 (fun b=>B.map (·.block)=some b):=fun b hb cs=>⟨fun e=>ne4 (show Blk w3 b _ cs from e) de hb,fun e=>ne4 (show Blk w3 b _ cs from e) de hb⟩;have hfp:(⟨yb,nl,r.b,r.p,e',r.A,r.c,r.k⟩:Ru).f.fp=r.f.fp:=by show(grp r.b r.p e' r.A r.c r.k).fp=(grp r.b r.p r.e r.A r.c r.k).fp;rw[grp_fp,grp_fp]
 have nds:(fpR (P.rs.take k)++(r.f.fp++fpR (P.rs.drop (k+1)))).Nodup:=by
  have e1:P.rs=P.rs.take k++(r::P.rs.drop (k+1)):=by rw[<-hdr,List.take_append_drop]
  have e2:=nd;rw[e1,fpR_app,fpR_cons] at e2;exact e2
 have hbr:r.b∈r.f.fp:=by show r.b∈(grp r.b r.p r.e r.A r.c r.k).fp;rw[grp_fp];simp
 have hdis:∀y∈nrs++P.rs.drop (k+1),¬r.b∈y.f.fp:=fun y hy h=>by
  rcases List.mem_append.1 hy with hy|hy
  ·have:r.b∈fpR (P.rs.take k):=by rw[<-fp];exact mem_fpR.2 ⟨y,hy,h⟩
   exact(List.nodup_append.1 nds).2.2 _ this _ (List.mem_append_left _ hbr) rfl
  ·exact(List.nodup_append.1 (List.nodup_append.1 nds).2.1).2.2 _ hbr _ (mem_fpR.2 ⟨y,hy,h⟩) rfl
 have hpos:doneG (insL P.q.cd.hs) nl=true->(grp r.b r.p e' r.A r.c r.k).pos (-1)=(r.f.pos (-1)).map (fun x=>(x.1,P.N)):=fun hd=>by
  rw[he,if_pos hd];exact pos_setE r.b r.p r.e r.A r.c r.k hN
 refine⟨k4.blk st3 (ne4 st3 de),OwnS.kp ow3 k4 (fun b hb h=>?_),by rw[List.length_append,flatR_app];exact nw4,ol,ma3.kpT k4 (fun b hb=>?_),by have:=mq;exact⟨this.1,by have:=this.2;omega⟩,sk,fun y hy=>?_,fun y hy=>?_,by simp[ln],?_,?_,fun y hy hd x hx=>?_,⟨k4.blk r3 (ne4 r3 de),OwnS.kp r3o k4 (fun b hb h=>?_)⟩,?_⟩
 ·have:=ol b hb;have:=OwnS.row nw3 b h;omega
 ·obtain⟨_,cur,hh⟩:=OwnS.blt nw3 hb;exact⟨_,_,hh,by decide,by decide,by decide⟩
 ·rcases List.mem_append.1 hy with hy|hy
  ·exact re y hy
  ·rw[List.mem_singleton.1 hy];exact ye
 ·rw[List.append_assoc] at hy;rcases List.mem_append.1 hy with hy1|hy1
  ·exact Fo.At.kpT k4 gN ((gt y (by simp[hy1])).kp k3 (fun b hb e=>hdis y (by simp[hy1]) (by rw[<-show b=r.b from e];exact hb)))
  ·rcases List.mem_append.1 hy1 with hy2|hy2
   ·rw[List.mem_singleton.1 hy2];exact Fo.At.kpT k4 gN ga
   ·exact Fo.At.kpT k4 gN ((gt y (by rw[hdr];simp[hy2])).kp k3 (fun b hb e=>hdis y (by simp[hy2]) (by rw[<-show b=r.b from e];exact hb)))
 ·rw[htk,fpR_app,fpR_app,fp,fpR_cons,fpR_cons,hfp]
 ·rw[htk,itsR_app,itsR_app,it,List.map_append,itsR_cons,itsR_cons]
  congr 1
  simp only[itsR,List.flatMap_nil,List.append_nil];unfold Ru.its;rw[List.map_map]
  show((grp r.b r.p e' r.A r.c r.k).pos (-1)).map _=_
  by_cases hd:doneG (insL P.q.cd.hs) nl=true
  ·rw[hpos hd,List.map_map];refine List.map_congr_left (fun x _=>?_);simp only[Function.comp,movI]
   rw[<-hnl,if_pos hd]
  ·rw[he,if_neg hd];refine List.map_congr_left (fun x _=>?_);simp only[Function.comp,movI]
   rw[<-hnl,if_neg hd]
 ·rcases List.mem_append.1 hy with hy|hy
  ·exact dn y hy hd x hx
  ·have hy':=List.mem_singleton.1 hy;subst hy';have hx':x∈(grp r.b r.p e' r.A r.c r.k).pos (-1):=hx;rw[hpos hd] at hx';obtain⟨u,_,rfl⟩:=List.mem_map.1 hx'
   rfl
 ·obtain⟨_,cur,hh⟩:=OwnS.blt nw3 h;exact own_blk r3o hh de hb
 ·refine(kp.trans (k3.mono (fun i hi=>?_))).chain k4 (fun i hi=>.inr (OwnS.row nw3 i hi));rw[show i=r.b from hi];exact hF
end
end Go.Proofs.YtmgpefenkilffaaGreat
