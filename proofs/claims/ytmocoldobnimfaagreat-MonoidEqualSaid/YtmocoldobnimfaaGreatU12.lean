/- Texts of this proof: G7 G8 G9 H3. -/
import Derived.Test.YtmocoldobnimfaaGreatU10
set_option linter.all false
set_option maxRecDepth 100000
set_option maxHeartbeats 4000000
namespace Go.Proofs.YtmocoldobnimfaaGreat
section
open Go.RowKit
structure Hs where
 A:Option Addr
 c:Nat
 l:List Sp
structure LLS (w:World)(A:Option Addr)(c:Nat)(ls:List Hs):Prop where
 le:ls.length≤c
 cap:c≤maxLen
 sl:∀h∈ls,SL w h.A h.c h.l
 at_:ls≠[]→∃b o,A=some ⟨b,o,none⟩∧∀i (h:i<ls.length),w.cell? ⟨b,o+i,none⟩=some (.slice ls[i].A ls[i].l.length ls[i].c)
namespace LLS
variable {w w':World} {A:Option Addr} {c:Nat} {ls:List Hs}
theorem ext (h:LLS w A c ls)(k:Ext w w'):LLS w' A c ls:=by
 refine⟨h.le,h.cap,fun x hx=>(h.sl x hx).ext k,fun hn=>?_⟩;obtain⟨b,o,rfl,hc⟩:=h.at_ hn;exact⟨b,o,rfl,fun i hi=>k.cell (hc i hi)⟩
theorem get {k:Nat}(h:LLS w A c ls)(hk:k<ls.length):∃b o,A=some ⟨b,o,none⟩∧w.cell? ⟨b,o+k,none⟩=some (.slice ls[k].A ls[k].l.length ls[k].c):=by
 obtain⟨b,o,rfl,hc⟩:=h.at_ (by intro h0;subst h0;simp at hk);exact⟨b,o,rfl,hc k hk⟩
theorem len (h:LLS w A c ls):ls.length≤c∧c≤9223372036854775807:=⟨h.le,by have:=h.cap;unfold maxLen at this;omega⟩
end LLS
theorem putE_ne {l:List Int}{n top:Int}(h:l≠[]):putE l n top≠[]:=by
 unfold putE;split
 ·exact h
 ·simp
theorem putS_ne {l:List Int}{s:Sp}{top:Int}(h:l≠[]):putS top l s≠[]:=putE_ne (putE_ne h)
theorem foldS_ne {top:Int}:∀{b:List Sp} {l:List Int},l≠[]→b.foldl (putS top) l≠[]
 | [],_,h=>h
 | _::b,_,h=>foldS_ne (b:=b) (putS_ne h)
def endsUpto (top:Int)(ls:List Hs)(i k:Nat):List Int:=(((ls.take i).map (·.l)).flatten++((ls[i]?.map (·.l)).getD []).take k).foldl (putS top) [0]
theorem endsUpto_zero (top:Int)(ls:List Hs)(i:Nat):endsUpto top ls i 0=(((ls.take i).map (·.l)).flatten).foldl (putS top) [0]:=by simp[endsUpto]
theorem endsUpto_next {top:Int}{ls:List Hs}{i:Nat}(hi:i<ls.length):endsUpto top ls i ls[i].l.length=endsUpto top ls (i+1) 0:=by
 rw[endsUpto_zero];unfold endsUpto;rw[List.getElem?_eq_getElem hi,List.take_succ_eq_append_getElem hi,List.map_append,List.flatten_append,List.foldl_append];simp only[Option.map_some,Option.getD_some,List.take_length,List.map_cons,List.map_nil,List.flatten_cons,List.flatten_nil,List.append_nil,List.foldl_append]
theorem endsUpto_step {top:Int}{ls:List Hs}{i k:Nat}(hi:i<ls.length)(hk:k<ls[i].l.length):endsUpto top ls i (k+1)=putE (putE (endsUpto top ls i k) ls[i].l[k].1 top) (ls[i].l[k].2+1) top:=by
 unfold endsUpto;rw[List.getElem?_eq_getElem hi];simp only[Option.map_some,Option.getD_some];rw[List.take_succ_eq_append_getElem hk,←List.append_assoc,List.foldl_append]
 rfl
theorem endsUpto_all (top:Int)(ls:List Hs):endsUpto top ls ls.length 0=endsT top (ls.map (·.l)):=by
 rw[endsUpto_zero,List.take_length];rfl
theorem endsUpto_ne (top:Int)(ls:List Hs)(i k:Nat):endsUpto top ls i k≠[]:=foldS_ne si
theorem endsUpto_len {top:Int}{ls:List Hs}{i k:Nat}:(endsUpto top ls i k).length≤1+2*((ls.map (·.l)).flatten.length):=by
 have h:=foldl_putS_len top (((ls.take i).map (·.l)).flatten++((ls[i]?.map (·.l)).getD []).take k) [0];unfold endsUpto;have h2:(((ls.take i).map (·.l)).flatten++((ls[i]?.map (·.l)).getD []).take k).length≤((ls.map (·.l)).flatten).length:=by
  rcases Nat.lt_or_ge i ls.length with hi|hi
  ·rw[List.getElem?_eq_getElem hi];have e:ls=ls.take i++ls[i]::ls.drop (i+1):=by
    conv=>lhs;rw[←List.take_append_drop i ls,List.drop_eq_getElem_cons hi]
   have e2:((ls.map (·.l)).flatten).length=((ls.take i).map (·.l)).flatten.length+(ls[i].l.length+((ls.drop (i+1)).map (·.l)).flatten.length):=by
    conv=>lhs;rw[e]
    rw[List.map_append,List.flatten_append,List.length_append,List.map_cons,List.flatten_cons,List.length_append]
   rw[List.length_append,e2];simp only[Option.map_some,Option.getD_some,List.length_take];omega
  ·rw[List.getElem?_eq_none hi,List.take_of_length_le hi]
   simp
 simp only[List.length_singleton] at h;omega
theorem ends_any (A:Option Addr)(c:Nat)(ls:List Hs)(top:Int)(w:World)(hl:LLS w A c ls)(hg:∀h∈ls,∀s∈h.l,goodS s)(hlen:(ls.map (·.l)).flatten.length≤100000) :
 Calls Tryz.prog 125 #[.slice A ls.length c,.int .i64 top] w (RetI (endsT top (ls.map (·.l))) w):=by
 have hcap:=hl.len;have b0:=Blk.new w 3 #[.int .i64 0];have x0:=Ext.alloc w (.cells #[.int .i64 0] 3);have HALL:=lh (endsUpto_all top ls);have HST:Hid (endsUpto top ls 0 0=[0]):=by show _=_;rw[endsUpto_zero];rfl
 have HIL0:=lh (IL.one (x:=0) b0 (by unfold I64;omega));generalize endsT top (ls.map (·.l))=out at *;go_enter Tryz.func125,Tryz.ntmps125
 go_upto_region 2 with fail
 generalize w.alloc (.cells #[.int .i64 0] 3)=w0 at *
 go_wp2_with fail
 go_loopw [5,6] (fun v5 v6 wr=>∃(i:Nat) (B:Option Addr) (d:Nat) (xs:List Int),v6=.int .i64 i∧i≤ls.length∧v5=.slice B xs.length d∧Hid (xs=endsUpto top ls i 0∧IL wr B d xs)∧Ext w wr) (fun _ v _=>ls.length-(intOf v).toNat)
 case atStart=>exact⟨0,_,1,[0],rfl,om,rfl,⟨HST.out.symm,HIL0.out⟩,x0⟩
 case round=>
  obtain⟨i,B,d,xs,rfl,hi,rfl,HX,x1⟩:=hrel;by_cases hlt:i<ls.length
  ·have hiI:(i:Int)<ls.length:=om;obtain⟨pb,po,rfl,g0⟩:=(hl.ext x1).get hlt;have hsl:=(hl.sl _ (List.getElem_mem hlt)).ext x1;have hgg:=hg _ (List.getElem_mem hlt);have hsll:=hsl.len;have HNX:=lh (endsUpto_next (top:=top) hlt);have HSTP:=fun(k:Nat) (hk:k<ls[i].l.length)=>lh (endsUpto_step (top:=top) hlt hk);have HSB:=lh (show ls[i].l.length≤100000 from by
    have e1:ls[i].l.length≤(ls.map (·.l)).flatten.length:=List.Sublist.length_le (List.sublist_flatten_of_mem (List.mem_map_of_mem (List.getElem_mem hlt)));omega)
   have HLN:=fun(k:Nat)=>lh (endsUpto_len (top:=top) (ls:=ls) (i:=i) (k:=k));have HNE:=fun(k:Nat)=>lh (endsUpto_ne top ls i k);generalize ls[i]=hh at *;obtain⟨hA,hc,hl2⟩:=hh
   simp only at g0 hsl hgg hsll HNX HSTP HSB
   go_wp2_with fail
   go_loopw [5,7] (fun v5 v7 wk=>∃(k:Nat) (B:Option Addr) (d:Nat) (xs:List Int),v7=.int .i64 k∧k≤hl2.length∧v5=.slice B xs.length d∧Hid (xs=endsUpto top ls i k∧IL wk B d xs)∧Ext wr wk) (fun _ v _=>hl2.length-(intOf v).toNat)
   case atStart=>exact⟨0,B,d,xs,rfl,om,rfl,HX,Ext.rfl' _⟩
   case round=>
    clear HX;obtain⟨k,B,d,xs,rfl,hk,rfl,HX,xk⟩:=hrel;replace g0:=xk.cell g0;have x2:=x1.trans xk;have hiI0:(0:Int)≤i:=om;by_cases hkl:k<hl2.length
    ·have hkI:(k:Int)<hl2.length:=om;obtain⟨sb,so,rfl,g1,g2⟩:=(hsl.ext xk).get hkl;have hgs:=hgg _ (List.getElem_mem hkl);have HS2:=HSTP k hkl;generalize hl2[k]=s at *;obtain⟨lo,hi2⟩:=s;have hgs':0≤lo∧lo≤hi2∧hi2≤1114111:=hgs
     simp only at g1 g2 HS2
     have hw1:IntKind.i64.wrap (hi2+1)=hi2+1:=wj;have HP1:=lh (put_any B d xs lo top wr HX.out.2 (by rw[HX.out.1];exact(HNE k).out) (by unfold I64;omega) (by rw[HX.out.1];have:=(HLN k).out;omega));have HP2:=fun(B2:Option Addr) (d2:Nat) (W':World) (h:IL W' B2 d2 (putE xs lo top))=>lh (put_any B2 d2 (putE xs lo top) (hi2+1) top W' h (putE_ne (by rw[HX.out.1];exact(HNE k).out)) (by unfold I64;omega) (by have h1:=putE_len xs lo top;have h2:=congrArg List.length HX.out.1;have:=(HLN k).out;omega));have HXE:=lh (show endsUpto top ls i (k+1)=putE (putE xs lo top) (hi2+1) top by rw[HS2.out,HX.out.1]);generalize putE (putE xs lo top) (hi2+1) top=zs at *;generalize putE xs lo top=ys at *;clear HSTP HS2 HX HNE HLN hgs hgg
     go_wp2_with fail
     refine HP1.out.mono ?_;rintro e w2 ⟨B2,d2,rfl,iB2,xa⟩;clear HP1;have HP3:=HP2 B2 d2 w2 iB2;replace g0:=xa.cell g0;replace g1:=xa.cell g1;replace g2:=xa.cell g2;have xk2:=xk.trans xa;clear HP2 iB2
     go_wp2_with fail
     refine HP3.out.mono ?_;rintro e w3 ⟨B3,d3,rfl,iB3,xb⟩;have xk3:=xk2.trans xb;have HX3:=lh (show zs=endsUpto top ls i (k+1)∧IL w3 B3 d3 zs from⟨HXE.out.symm,iB3⟩);clear HP3 g0 g1 g2 xa xb xk2 xk HXE iB3 hw1 hgs'
     go_wp2_with fail
     go_roundw
     case rel=>exact⟨k+1,B3,d3,zs,by go_num,om,rfl,HX3,xk3⟩
     case measure=>simp[intOf];omega
    ·have hkI:¬(k:Int)<hl2.length:=om;have hke:k=hl2.length:=om;have HX4:=lh (show xs=endsUpto top ls (i+1) 0∧IL wr B d xs from⟨by rw[HX.out.1,hke];exact HNX.out,HX.out.2⟩);clear hke HX HSTP HNE HLN hgg
     go_wp2_with fail
     go_roundw
     case rel=>exact⟨i+1,B,d,xs,by go_num,om,rfl,HX4,x2⟩
     case measure=>simp[intOf];omega
  ·have hiI:¬(i:Int)<ls.length:=om;have hix:i=ls.length:=om;have HE:=lh (show xs=out by rw[HX.out.1,hix,HALL.out]);have HI:=lh HX.out.2;clear HX hix
   go_wp2_with fail
   go_ret
   exact⟨B,d,by rw[←HE.out];rfl,by rw[←HE.out];exact HI.out,x1⟩
end
section
open Go.RowKit
structure IB (w:World)(A:Option Addr)(c:Nat)(bs:List Bool):Prop where
 le:bs.length≤c
 cap:c≤maxLen
 at_:bs≠[]→∃b o,A=some ⟨b,o,none⟩∧∀i (h:i<bs.length),w.cell? ⟨b,o+i,none⟩=some (.bool bs[i])
namespace IB
variable {w w':World} {A:Option Addr} {c:Nat} {bs:List Bool}
theorem ext (h:IB w A c bs)(k:Ext w w'):IB w' A c bs:=by
 refine⟨h.le,h.cap,fun hn=>?_⟩;obtain⟨b,o,rfl,hc⟩:=h.at_ hn;exact⟨b,o,rfl,fun i hi=>k.cell (hc i hi)⟩
theorem nil (w:World):IB w none 0 []:=⟨Nat.le_refl _,Nat.zero_le _,fun h=>absurd rfl h⟩
theorem len (h:IB w A c bs):bs.length≤c∧c≤9223372036854775807:=⟨h.le,by have:=h.cap;unfold maxLen at this;omega⟩
theorem get {k:Nat}(h:IB w A c bs)(hk:k<bs.length):∃b o,A=some ⟨b,o,none⟩∧w.cell? ⟨b,o+k,none⟩=some (.bool bs[k]):=by
 obtain⟨b,o,rfl,hc⟩:=h.at_ (by intro h0;subst h0;simp at hk);exact⟨b,o,rfl,hc k hk⟩
theorem of_own {base:Nat}(h:OwnS w base 4 1 A bs.length c (bs.map Value.bool)):IB w A c bs:=by
 have hc:=OwnS.caps h;refine⟨hc.1,by unfold maxLen;omega,fun hn=>?_⟩;obtain⟨b,o,hA,hcell⟩:=OwnS.cells h (by intro e;rw[List.map_eq_nil_iff] at e;exact hn e);refine⟨b,o,hA,fun i hi=>?_⟩;have:=hcell i (by simpa using hi)
 simpa using this
end IB
theorem segsT_get:∀{l:List Int} {top:Int} {i:Nat} (hi:i<l.length),(segsT l top)[i]'(by rw[segsT_len];exact hi)=(l[i],if h:i+1<l.length then l[i+1]-1 else top)
 | [a],top,i,hi=>by
  have:i=0:=by simpa using hi
  subst this;simp[segsT]
 | a::b::r,top,i,hi=>by
  rcases i with _|i
  ·simp[segsT_cons]
  ·have:=segsT_get (l:=b::r) (top:=top) (i:=i) (by simpa using hi);simp only[segsT_cons,List.getElem_cons_succ,this]
   simp
def ofUpto (p:Int→Bool)(l:List Int)(top:Int)(i:Nat):List Sp×Bool:=ofAll p ((segsT l top).take i) ([],false)
theorem ofUpto_zero (p:Int→Bool)(l:List Int)(top:Int):ofUpto p l top 0=([],false):=rfl
theorem ofUpto_succ {p:Int→Bool}{l:List Int}{top:Int}{i:Nat}(hi:i<l.length):ofUpto p l top (i+1)=ofStep (ofUpto p l top i) (l[i],if h:i+1<l.length then l[i+1]-1 else top) (p l[i]):=by
 unfold ofUpto ofAll;rw[List.take_succ_eq_append_getElem (by rw[segsT_len];exact hi),List.foldl_append,segsT_get hi]
 rfl
theorem ofUpto_flag {p:Int→Bool}{l:List Int}{top:Int}{i:Nat}(hi:i<l.length):(ofUpto p l top (i+1)).2=p l[i]:=by
 rw[ofUpto_succ hi];rfl
theorem ofUpto_ne {p:Int→Bool}{l:List Int}{top:Int}:∀{i:Nat},i≤l.length→(ofUpto p l top i).2=true→(ofUpto p l top i).1≠[]
 | 0,_,h=>by rw[ofUpto_zero] at h;cases h
 | i+1,hi,h=>by
  rw[ofUpto_succ om] at h ⊢;have hb:p (l[i]'om)=true:=h;unfold ofStep;simp only[hb,if_true]
  split<;>simp
theorem ofUpto_all {p:Int→Bool}{l:List Int}{top:Int}(hE:Ends l top):(ofUpto p l top l.length).1=cls l top p:=by
 unfold ofUpto;rw[List.take_of_length_le (by rw[segsT_len];exact Nat.le_refl _)];exact of_cls hE p
theorem ofStep_no {st:List Sp×Bool}{s:Sp}:(ofStep st s false).1=st.1:=rfl
theorem ofStep_new {st:List Sp×Bool}{s:Sp}(h:st.2=false):(ofStep st s true).1=st.1++[s]:=by unfold ofStep;simp[h]
theorem ofStep_join {st:List Sp×Bool}{s t:Sp}{l0:List Sp}(h:st.2=true)(hl:st.1=l0++[t]):(ofStep st s true).1=l0++[(t.1,s.2)]:=by unfold ofStep;simp[h,hl]
theorem ofUpto_len {p:Int→Bool}{l:List Int}{top:Int}:∀{i:Nat},i≤l.length→(ofUpto p l top i).1.length≤i
 | 0,_=>by rw[ofUpto_zero];simp
 | i+1,hi=>by
  have ih:=ofUpto_len (p:=p) (l:=l) (top:=top) (i:=i) om;rw[ofUpto_succ om];unfold ofStep
  split
  ·split
   ·simp;omega
   ·simp;omega
  ·simp;omega
theorem cls_good {l:List Int}{top:Int}(hE:Ends l top)(h0:l.head? = some 0)(ht:top≤1114111)(p:Int→Bool):∀s∈cls l top p,goodS s:=by
 intro s hs;obtain⟨h1,h2⟩:=cls_canon hE p;have h3:=h1.1 s hs;have h4:=(h2 s.1).1 (has_iff.2 ⟨s,hs,Int.le_refl _,h3⟩);have h5:=(h2 s.2).1 (has_iff.2 ⟨s,hs,h3,Int.le_refl _⟩);obtain⟨u,hu,_,h6,_⟩:=h4;obtain⟨v,hv,_,_,h7⟩:=h5;have h8:=segsT_mem hE u hu;have h9:=segsT_mem hE v hv;have h10:0≤u.1:=by
  rcases l with _|⟨a,l⟩
  ·simp at h0
  ·obtain rfl:a=0:=by simpa using h0
   rcases List.mem_cons.1 h8.1 with e|e
   ·omega
   ·have:=(List.pairwise_cons.1 hE.inc).1 u.1 e;omega
 unfold goodS;omega
def RetS (out:List Sp)(w:World)(e:Ending)(w':World):Prop:=
 (64<out.length∧e=.returned (.tuple #[.slice none 0 0,.int .i64 4])∧Ext w w')∨
 (out.length≤64∧∃(A:Option Addr) (c:Nat),e=.returned (.tuple #[.slice A out.length c,.int .i64 0])∧SL w' A c out∧Ext w w'∧Fr w A)
theorem G8z1 {P:Prop} (h:P:=by
 have hne:xs≠[]:=by rw[HX.out.1];exact ofUpto_ne om HFL.out
 rcases List.eq_nil_or_concat xs with h|⟨l0,t,h⟩
 ·exact absurd h hne
 ·exact⟨l0,t,by rw[h,List.concat_eq_append]⟩):P:=h
theorem of_any (A B:Option Addr)(c d:Nat)(l:List Int)(p:Int→Bool)(top:Int)(w:World)(hl:IL w A c l)(hb:IB w B d (l.map p))(hE:Ends l top)(h0:l.head? = some 0)(ht:top≤1114111)(hlen:l.length≤1000000) :
 Calls Tryz.prog 127 #[.slice A l.length c,.slice B l.length d,.int .i64 top] w (RetS (cls l top p) w):=by
 obtain⟨iS,jS0,jS1,jS2,jS3⟩:=info_parts infoS;have hcap:=hl.len;have hcap2:=hb.len;rw[List.length_map] at hcap2;have HALL:=lh (ofUpto_all (p:=p) hE);have HG:=lh (cls_good hE h0 ht p);have hE0:∀x∈l,0≤x∧x≤1114111:=fun x hx=>by
  have h1:=hE.le x hx;refine⟨?_,om⟩;rcases l with _|⟨a,l⟩
  ·simp at h0
  ·obtain rfl:a=0:=by simpa using h0
   rcases List.mem_cons.1 hx with e|e
   ·omega
   ·have:=(List.pairwise_cons.1 hE.inc).1 x e;omega
 have HE0:=lh hE0;generalize cls l top p=out at *;clear hE0 hE h0;go_enter Tryz.func127,Tryz.ntmps127
 go_wp2
 go_loopw [8,9] (fun v8 v9 wr=>∃(i:Nat) (O:Option Addr) (cO:Nat) (xs:List Sp),v9=.int .i64 i∧i≤l.length∧v8=.slice O xs.length cO∧Hid (xs=(ofUpto p l top i).1∧OwnP wr w.heap.size O cO xs)∧Ext w wr) (fun _ v _=>l.length-(intOf v).toNat)
 case atStart=>exact⟨0,none,0,[],rfl,om,rfl,⟨rfl,OwnP.nil _ _⟩,Ext.rfl' _⟩
 case round=>
  obtain⟨i,O,cO,xs,rfl,hi,rfl,HX,x1⟩:=hrel;by_cases hlt:i<l.length
  ·have hiI:(i:Int)<l.length:=om;obtain⟨pb,po,hB,g0⟩:=(hb.ext x1).get (k:=i) (by rw[List.length_map];exact hlt);subst hB;simp only[List.getElem_map] at g0;have HSU:=lh (ofUpto_succ (p:=p) (top:=top) hlt);have HXB:=lh (show xs.length≤1000000 by
    have:=ofUpto_len (p:=p) (l:=l) (top:=top) (i:=i) hi;rw[HX.out.1];omega)
   have hxb:=HXB.out;obtain⟨pa,qa,hAe,g1⟩:=(hl.ext x1).get hlt;have hx0:=HE0.out _ (List.getElem_mem hlt);by_cases hp:p l[i]=true
   ·rw[hp] at g0 HSU;by_cases hn1:i+1<l.length
    ·obtain⟨pa2,qa2,hAe2,g2⟩:=(hl.ext x1).get hn1;have hy0:=HE0.out _ (List.getElem_mem hn1);rw[hAe] at hAe2;obtain⟨rfl,rfl⟩:pa=pa2∧qa=qa2:=by injection hAe2 with h1;injection h1 with h2 h3 h4;exact⟨h2,h3⟩
     rw[dif_pos hn1] at HSU;have hnI:(i:Int)+1<l.length:=om;have hn0:(0:Int)≤(i:Int)+1:=om;have hto:((i:Int)+1).toNat=i+1:=om;have hwi:IntKind.i64.wrap ((i:Int)+1)=(i:Int)+1:=wj;have hwy:IntKind.i64.wrap (l[i+1]-1)=l[i+1]-1:=wj;subst hAe;clear hAe2;generalize l[i]=x at *;generalize l[i+1]=y at *;clear hp;rcases Nat.eq_zero_or_pos i with h0|h0
     ·subst h0;have HFL:=lh (show(ofUpto p l top 0).2=false from rfl);simp only[Nat.add_zero,Nat.zero_add] at *;have HSU2:=lh (show xs++[(x,y-1)]=(ofUpto p l top (0+1)).1 by
       rw[HSU.out,ofStep_new HFL.out,HX.out.1])
      have HO:=lh HX.out.2;have HNB:=lh (Blk.new wr 38 (flatS [(x,y-1)]).toArray);have HL6:=lh (show xs.length+1≤maxLen∧(xs.length+1)*16≤140737488355328 by unfold maxLen;omega);have HBS:=lh (x1.trans (Ext.alloc wr (.cells (flatS [(x,y-1)]).toArray 38))).size;have HLN:=lh (show(xs++[(x,y-1)]).length=xs.length+1 by simp);clear HX HSU HFL
      go_wp2_with ((at_builtin;refine wpList_app _ rfl _ _ _ rfl w.heap.size 38 iS _ 2 16 Tryz.underlying23 jS0 jS1 jS2 jS3 rfl om O xs.length cO (flatS xs) rfl (OwnS.ext HO.out (Ext.alloc _ _)) _ 1 1 (flatS [(x,y-1)]) rfl rfl (blk_cells HNB.out) (flatS_one _) HL6.out.1 HL6.out.2 HBS.out ?_;intro O2 cO2 w2 ho2 hg2 hat2))
      have x2:=Ext.app (x1.trans (Ext.alloc _ _)) (OwnS.ext HO.out (Ext.alloc _ _)) hg2;have HP2:Hid (xs++[(x,y-1)]=(ofUpto p l top (0+1)).1∧OwnP w2 w.heap.size O2 cO2 (xs++[(x,y-1)])):=⟨HSU2.out,by unfold OwnP;rw[HLN.out,flatS_append];exact ho2⟩;clear hg2 ho2 hat2 HNB HO HSU2 HBS HL6;go_roundw
      case rel=>exact⟨0+1,O2,cO2,xs++[(x,y-1)],by go_num,om,by rw[HLN.out],HP2,x2⟩
      case measure=>simp[intOf];omega
     ·obtain⟨k,rfl⟩:∃k,i=k+1:=⟨i-1,om⟩;have hkl:k<l.length:=om;obtain⟨pb2,po2,hB2,g3⟩:=(hb.ext x1).get (k:=k) (by rw[List.length_map];exact hkl);obtain⟨rfl,rfl⟩:pb=pb2∧po=po2:=by injection hB2 with h1;injection h1 with h2 h3 h4;exact⟨h2,h3⟩
      simp only[List.getElem_map] at g3;have hflag:=ofUpto_flag (p:=p) (top:=top) hkl;have hki:(0:Int)<(k:Int)+1:=om;have hki0:(0:Int)≤(k:Int)+1:=om;have hkto:((k:Int)+1).toNat=k+1:=om;have hk1:(k:Int)+1<l.length:=om;have hk2:(k:Int)<l.length:=om;have hwk:IntKind.i64.wrap ((k:Int)+1-1)=(k:Int):=wj;have hwk2:IntKind.i64.wrap (k:Int)=(k:Int):=wj;have hwk3:IntKind.i64.wrap ((k:Int)+1+1)=(k:Int)+1+1:=wj;have hkto3:((k:Int)+1+1).toNat=k+1+1:=om;have hkn3:(0:Int)≤(k:Int)+1+1:=om;have hkl3:(k:Int)+1+1<(l.length:Int):=om;clear hB2;by_cases hpk:p l[k]=true
      ·rw[hpk] at g3 hflag;have HFL:=lh hflag;clear hflag hpk;obtain⟨l0,t,hxs⟩:∃l0 t,xs=l0++[t]:=by
        exact G8z1
       have HSU2:=lh (show l0++[(t.1,y-1)]=(ofUpto p l top (k+1+1)).1 by
        rw[HSU.out,ofStep_join HFL.out (HX.out.1.symm.trans hxs)])
       obtain⟨n,hn⟩:∃n,n=l0.length:=⟨_,rfl⟩;have hxl:xs.length=n+1:=by rw[hxs];simp[hn]
       have HOW:OwnS wr w.heap.size 38 2 O (n+1) cO (flatS (l0++[t])):=by
        have:=HX.out.2;unfold OwnP at this;rw[hxl,hxs] at this;exact this
       generalize xs.length=q at *;subst hxl;have hfl:n*2+1<(flatS (l0++[t])).length:=by rw[flatS_len,List.length_append,List.length_singleton];omega
       obtain⟨go,hOe,hgo,-,-,-,-⟩:=OwnS.store HOW hfl;subst hOe;obtain⟨u1,u2,u3⟩:=lastCell HOW hn.symm;have HST:=lh (lastStore HOW hn.symm (y-1));have HLN:=lh (show(l0++[(t.1,y-1)]).length=n+1 by simp[hn]);have hn1:(0:Int)<(n:Int)+1:=om;have hn2:(n:Int)<(n:Int)+1:=om;have hwn:IntKind.i64.wrap ((n:Int)+1-1)=(n:Int):=wj;have hwn2:IntKind.i64.wrap (n:Int)=(n:Int):=wj;have x2:=x1.setNew (p:=⟨go,n*2+1,none⟩) hgo (.int .i64 (y-1));clear HX HSU HFL hxs hfl HOW hn
       go_wp2_with fail
       have HP2:Hid (l0++[(t.1,y-1)]=(ofUpto p l top (k+1+1)).1∧OwnP (wr.setCell ⟨go,n*2+1,none⟩ (.int .i64 (y-1))) w.heap.size (some ⟨go,0,none⟩) cO (l0++[(t.1,y-1)])):=⟨HSU2.out,by unfold OwnP;rw[HLN.out];exact HST.out⟩;clear HST HSU2;go_roundw
       case rel=>exact⟨k+1+1,some ⟨go,0,none⟩,cO,l0++[(t.1,y-1)],by go_num,om,by rw[HLN.out],HP2,x2⟩
       case measure=>simp[intOf];omega
      ·have hpk2:p l[k]=false:=by simpa using hpk
       rw[hpk2] at g3 hflag;have HFL:=lh hflag;clear hflag hpk hpk2;have HSU2:=lh (show xs++[(x,y-1)]=(ofUpto p l top (k+1+1)).1 by
        rw[HSU.out,ofStep_new HFL.out,HX.out.1])
       have HO:=lh HX.out.2;have HNB:=lh (Blk.new wr 38 (flatS [(x,y-1)]).toArray);have HL6:=lh (show xs.length+1≤maxLen∧(xs.length+1)*16≤140737488355328 by unfold maxLen;omega);have HBS:=lh (x1.trans (Ext.alloc wr (.cells (flatS [(x,y-1)]).toArray 38))).size;have HLN:=lh (show(xs++[(x,y-1)]).length=xs.length+1 by simp);clear HX HSU HFL
       go_wp2_with ((at_builtin;refine wpList_app _ rfl _ _ _ rfl w.heap.size 38 iS _ 2 16 Tryz.underlying23 jS0 jS1 jS2 jS3 rfl om O xs.length cO (flatS xs) rfl (OwnS.ext HO.out (Ext.alloc _ _)) _ 1 1 (flatS [(x,y-1)]) rfl rfl (blk_cells HNB.out) (flatS_one _) HL6.out.1 HL6.out.2 HBS.out ?_;intro O2 cO2 w2 ho2 hg2 hat2))
       have x2:=Ext.app (x1.trans (Ext.alloc _ _)) (OwnS.ext HO.out (Ext.alloc _ _)) hg2;have HP2:Hid (xs++[(x,y-1)]=(ofUpto p l top (k+1+1)).1∧OwnP w2 w.heap.size O2 cO2 (xs++[(x,y-1)])):=⟨HSU2.out,by unfold OwnP;rw[HLN.out,flatS_append];exact ho2⟩;clear hg2 ho2 hat2 HNB HO HSU2 HBS HL6;go_roundw
       case rel=>exact⟨k+1+1,O2,cO2,xs++[(x,y-1)],by go_num,om,by rw[HLN.out],HP2,x2⟩
       case measure=>simp[intOf];omega
    ·rw[dif_neg hn1] at HSU;have hnI:¬(i:Int)+1<l.length:=om;have hwi:IntKind.i64.wrap ((i:Int)+1)=(i:Int)+1:=wj;subst hAe;generalize l[i]=x at *;clear hp;rcases Nat.eq_zero_or_pos i with h0|h0
     ·subst h0;have HFL:=lh (show(ofUpto p l top 0).2=false from rfl);simp only[Nat.add_zero,Nat.zero_add] at *;have HSU2:=lh (show xs++[(x,top)]=(ofUpto p l top (0+1)).1 by
       rw[HSU.out,ofStep_new HFL.out,HX.out.1])
      have HO:=lh HX.out.2;have HNB:=lh (Blk.new wr 38 (flatS [(x,top)]).toArray);have HL6:=lh (show xs.length+1≤maxLen∧(xs.length+1)*16≤140737488355328 by unfold maxLen;omega);have HBS:=lh (x1.trans (Ext.alloc wr (.cells (flatS [(x,top)]).toArray 38))).size;have HLN:=lh (show(xs++[(x,top)]).length=xs.length+1 by simp);clear HX HSU HFL
      go_wp2_with ((at_builtin;refine wpList_app _ rfl _ _ _ rfl w.heap.size 38 iS _ 2 16 Tryz.underlying23 jS0 jS1 jS2 jS3 rfl om O xs.length cO (flatS xs) rfl (OwnS.ext HO.out (Ext.alloc _ _)) _ 1 1 (flatS [(x,top)]) rfl rfl (blk_cells HNB.out) (flatS_one _) HL6.out.1 HL6.out.2 HBS.out ?_;intro O2 cO2 w2 ho2 hg2 hat2))
      have x2:=Ext.app (x1.trans (Ext.alloc _ _)) (OwnS.ext HO.out (Ext.alloc _ _)) hg2;have HP2:Hid (xs++[(x,top)]=(ofUpto p l top (0+1)).1∧OwnP w2 w.heap.size O2 cO2 (xs++[(x,top)])):=⟨HSU2.out,by unfold OwnP;rw[HLN.out,flatS_append];exact ho2⟩;clear hg2 ho2 hat2 HNB HO HSU2 HBS HL6;go_roundw
      case rel=>exact⟨0+1,O2,cO2,xs++[(x,top)],by go_num,om,by rw[HLN.out],HP2,x2⟩
      case measure=>simp[intOf];omega
     ·obtain⟨k,rfl⟩:∃k,i=k+1:=⟨i-1,om⟩;have hkl:k<l.length:=om;obtain⟨pb2,po2,hB2,g3⟩:=(hb.ext x1).get (k:=k) (by rw[List.length_map];exact hkl);obtain⟨rfl,rfl⟩:pb=pb2∧po=po2:=by injection hB2 with h1;injection h1 with h2 h3 h4;exact⟨h2,h3⟩
      simp only[List.getElem_map] at g3;have hflag:=ofUpto_flag (p:=p) (top:=top) hkl;have hki:(0:Int)<(k:Int)+1:=om;have hki0:(0:Int)≤(k:Int)+1:=om;have hkto:((k:Int)+1).toNat=k+1:=om;have hk1:(k:Int)+1<l.length:=om;have hk2:(k:Int)<l.length:=om;have hwk:IntKind.i64.wrap ((k:Int)+1-1)=(k:Int):=wj;have hwk2:IntKind.i64.wrap (k:Int)=(k:Int):=wj;have hwk3:IntKind.i64.wrap ((k:Int)+1+1)=(k:Int)+1+1:=wj;have hkto3:((k:Int)+1+1).toNat=k+1+1:=om;have hkn3:(0:Int)≤(k:Int)+1+1:=om;have hkl3:¬(k:Int)+1+1<(l.length:Int):=om;clear hB2;by_cases hpk:p l[k]=true
      ·rw[hpk] at g3 hflag;have HFL:=lh hflag;clear hflag hpk;obtain⟨l0,t,hxs⟩:∃l0 t,xs=l0++[t]:=by
        exact G8z1
       have HSU2:=lh (show l0++[(t.1,top)]=(ofUpto p l top (k+1+1)).1 by
        rw[HSU.out,ofStep_join HFL.out (HX.out.1.symm.trans hxs)])
       obtain⟨n,hn⟩:∃n,n=l0.length:=⟨_,rfl⟩;have hxl:xs.length=n+1:=by rw[hxs];simp[hn]
       have HOW:OwnS wr w.heap.size 38 2 O (n+1) cO (flatS (l0++[t])):=by
        have:=HX.out.2;unfold OwnP at this;rw[hxl,hxs] at this;exact this
       generalize xs.length=q at *;subst hxl;have hfl:n*2+1<(flatS (l0++[t])).length:=by rw[flatS_len,List.length_append,List.length_singleton];omega
       obtain⟨go,hOe,hgo,-,-,-,-⟩:=OwnS.store HOW hfl;subst hOe;obtain⟨u1,u2,u3⟩:=lastCell HOW hn.symm;have HST:=lh (lastStore HOW hn.symm (top));have HLN:=lh (show(l0++[(t.1,top)]).length=n+1 by simp[hn]);have hn1:(0:Int)<(n:Int)+1:=om;have hn2:(n:Int)<(n:Int)+1:=om;have hwn:IntKind.i64.wrap ((n:Int)+1-1)=(n:Int):=wj;have hwn2:IntKind.i64.wrap (n:Int)=(n:Int):=wj;have x2:=x1.setNew (p:=⟨go,n*2+1,none⟩) hgo (.int .i64 (top));clear HX HSU HFL hxs hfl HOW hn
       go_wp2_with fail
       have HP2:Hid (l0++[(t.1,top)]=(ofUpto p l top (k+1+1)).1∧OwnP (wr.setCell ⟨go,n*2+1,none⟩ (.int .i64 (top))) w.heap.size (some ⟨go,0,none⟩) cO (l0++[(t.1,top)])):=⟨HSU2.out,by unfold OwnP;rw[HLN.out];exact HST.out⟩;clear HST HSU2;go_roundw
       case rel=>exact⟨k+1+1,some ⟨go,0,none⟩,cO,l0++[(t.1,top)],by go_num,om,by rw[HLN.out],HP2,x2⟩
       case measure=>simp[intOf];omega
      ·have hpk2:p l[k]=false:=by simpa using hpk
       rw[hpk2] at g3 hflag;have HFL:=lh hflag;clear hflag hpk hpk2;have HSU2:=lh (show xs++[(x,top)]=(ofUpto p l top (k+1+1)).1 by
        rw[HSU.out,ofStep_new HFL.out,HX.out.1])
       have HO:=lh HX.out.2;have HNB:=lh (Blk.new wr 38 (flatS [(x,top)]).toArray);have HL6:=lh (show xs.length+1≤maxLen∧(xs.length+1)*16≤140737488355328 by unfold maxLen;omega);have HBS:=lh (x1.trans (Ext.alloc wr (.cells (flatS [(x,top)]).toArray 38))).size;have HLN:=lh (show(xs++[(x,top)]).length=xs.length+1 by simp);clear HX HSU HFL
       go_wp2_with ((at_builtin;refine wpList_app _ rfl _ _ _ rfl w.heap.size 38 iS _ 2 16 Tryz.underlying23 jS0 jS1 jS2 jS3 rfl om O xs.length cO (flatS xs) rfl (OwnS.ext HO.out (Ext.alloc _ _)) _ 1 1 (flatS [(x,top)]) rfl rfl (blk_cells HNB.out) (flatS_one _) HL6.out.1 HL6.out.2 HBS.out ?_;intro O2 cO2 w2 ho2 hg2 hat2))
       have x2:=Ext.app (x1.trans (Ext.alloc _ _)) (OwnS.ext HO.out (Ext.alloc _ _)) hg2;have HP2:Hid (xs++[(x,top)]=(ofUpto p l top (k+1+1)).1∧OwnP w2 w.heap.size O2 cO2 (xs++[(x,top)])):=⟨HSU2.out,by unfold OwnP;rw[HLN.out,flatS_append];exact ho2⟩;clear hg2 ho2 hat2 HNB HO HSU2 HBS HL6;go_roundw
       case rel=>exact⟨k+1+1,O2,cO2,xs++[(x,top)],by go_num,om,by rw[HLN.out],HP2,x2⟩
       case measure=>simp[intOf];omega
   ·have hpf:p l[i]=false:=by simpa using hp
    rw[hpf] at g0 HSU;have HP2:Hid (xs=(ofUpto p l top (i+1)).1∧OwnP wr w.heap.size O cO xs):=⟨by rw[HSU.out,ofStep_no];exact HX.out.1,HX.out.2⟩;clear HX HSU HXB hx0 hp hpf hAe g1
    go_wp2_with fail
    go_roundw
    case rel=>exact⟨i+1,O,cO,xs,by go_num,om,rfl,HP2,x1⟩
    case measure=>simp[intOf];omega
  ·have hiI:¬(i:Int)<l.length:=om;have hix:i=l.length:=om;have HXE:=lh (show xs=out by rw[HX.out.1,hix,HALL.out]);have HO:=lh HX.out.2;have HSZ:Hid (xs.length≤1000000):=by
    have:=ofUpto_len (p:=p) (l:=l) (top:=top) (i:=i) hi
    show _≤_
    rw[HX.out.1];omega
   clear HX hix HALL;by_cases h64:64<xs.length
   ·have hI64:(64:Int)<xs.length:=om
    go_wp2_with fail
    exact bodyPost_ret (v:=.tuple #[.slice none 0 0,.int .i64 4]) (by simp[results,Tryz.results127,go_sem]) rfl (.inl ⟨by rw[←HXE.out];exact h64,rfl,x1⟩)
   ·have hI64:¬(64:Int)<xs.length:=om
    go_wp2_with fail
    exact bodyPost_ret (v:=.tuple #[.slice O xs.length cO,.int .i64 0]) (by simp[results,Tryz.results127,go_sem]) rfl (.inr ⟨by rw[←HXE.out];omega,O,cO,by rw[HXE.out],by
     rw[←HXE.out];refine SL.of_own HO.out (fun s hs=>?_);have:=HG.out s (by rw[←HXE.out];exact hs);unfold goodS at this;exact⟨by unfold I64;omega,by unfold I64;omega⟩,x1,fun b hb=>OwnP.row HO.out hb⟩)
end
section
open Go.RowKit
theorem infoBl:(Tryz.prog.info? 4).map (fun i=>(i.zero,i.size,i.bytes))=some (some (.bool false),1,1):=by kernel_rfl
theorem bools_one (l:List Bool):∀u∈l.map Value.bool,u.oneCell'=true:=by
 intro u hu;obtain⟨b,_,rfl⟩:=List.mem_map.1 hu
 rfl
end
section
open Go.RowKit
def alikeB (ls:List Hs)(x y:Int):Bool:=decide (∀j (h:j<ls.length),has ls[j].l x=has ls[j].l y)
theorem alikeB_no {ls:List Hs}{x y:Int}{i:Nat}(hi:i<ls.length)(h:has ls[i].l x≠has ls[i].l y):alikeB ls x y=false:=decide_eq_false (fun hk=>h (hk i hi))
theorem alikeB_yes {ls:List Hs}{x y:Int}(h:∀j (h:j<ls.length),has ls[j].l x=has ls[j].l y):alikeB ls x y=true:=decide_eq_true h
theorem gAlike_any (A:Option Addr)(c:Nat)(ls:List Hs)(x y:Int)(w:World)(hl:LLS w A c ls):Calls Tryz.prog 126 #[.slice A ls.length c,.int .i64 x,.int .i64 y] w (RetV (.bool (alikeB ls x y)) w):=by
 have hcap:=hl.len;have HN:=fun i hi h=>lh (alikeB_no (ls:=ls) (x:=x) (y:=y) (i:=i) hi h);have HY:=fun h=>lh (alikeB_yes (ls:=ls) (x:=x) (y:=y) h);generalize alikeB ls x y=r at *;go_enter Tryz.func126,Tryz.ntmps126
 go_wp2
 go_loopw [7] (fun v wr=>∃i:Nat,v=.int .i64 i∧i≤ls.length∧Hid (∀j (h:j<ls.length),j<i→has ls[j].l x=has ls[j].l y)∧Ext w wr) (fun v _=>ls.length-(intOf v).toNat)
 case atStart=>exact⟨0,rfl,om,fun j _ hj=>absurd hj (Nat.not_lt_zero _),Ext.rfl' _⟩
 case round=>
  obtain⟨i,rfl,hi,HI,x1⟩:=hrel;by_cases hlt:i<ls.length
  ·have hiI:(i:Int)<ls.length:=om;obtain⟨pb,po,rfl,g0⟩:=(hl.ext x1).get hlt;have hsl:=(hl.sl _ (List.getElem_mem hlt)).ext x1;have HV:=fun(z:Int) (W':World) (x:Ext wr W')=>lh (gHas_any _ _ _ z W' (hsl.ext x));have HI2:=lh (show has ls[i].l x=has ls[i].l y→∀j (hj:j<ls.length),j<i+1→has ls[j].l x=has ls[j].l y from fun h j hj hji=>by
    rcases Nat.lt_or_ge j i with h1|h1
    ·exact HI.out j hj h1
    ·have:j=i:=om;subst this;exact h)
   have HB:=HN i hlt;generalize ls[i]=hh at *;obtain⟨hA,hc,hl2⟩:=hh
   simp only at g0 HV HI2 HB
   have HVx:=fun W' h=>HV x W' h;have HVy:=fun W' h=>HV y W' h;clear HV;generalize has hl2 x=bx at *;generalize has hl2 y=by_ at *;by_cases he:bx=by_
   ·have HI3:=lh (HI2.out he);have hb:(!bx == by_)=false:=by simp[he]
    clear HI2 HB HN HY HI he
    go_wp2_with fail
    refine(HVx _ (Ext.rfl' _)).out.mono ?_;rintro e w2 ⟨rfl,x2⟩;replace g0:=x2.cell g0
    go_wp2_with fail
    refine(HVy _ x2).out.mono ?_;rintro e w3 ⟨rfl,x3⟩;have x4:=(x1.trans x2).trans x3;clear HVx HVy g0 hsl x2 x3
    go_wp2_with fail
    go_roundw
    case rel=>exact⟨i+1,by go_num,om,HI3,x4⟩
    case measure=>simp[intOf];omega
   ·have HR:=HB he;have hb:(!bx == by_)=true:=by simp[he]
    clear HI2 HB HN HY HI he
    go_wp2_with fail
    refine(HVx _ (Ext.rfl' _)).out.mono ?_;rintro e w2 ⟨rfl,x2⟩;replace g0:=x2.cell g0
    go_wp2_with fail
    refine(HVy _ x2).out.mono ?_;rintro e w3 ⟨rfl,x3⟩;have x4:=(x1.trans x2).trans x3;clear HVx HVy g0 hsl x2 x3
    go_wp2_with fail
    go_ret
    exact⟨by rw[HR.out];rfl,x4⟩
  ·have hiI:¬(i:Int)<ls.length:=om;have HR:=HY (fun j hj=>HI.out j hj om);clear HI HY HN
   go_wp2
   go_ret
   exact⟨by rw[HR.out];rfl,x1⟩
end
end Go.Proofs.YtmocoldobnimfaaGreat
