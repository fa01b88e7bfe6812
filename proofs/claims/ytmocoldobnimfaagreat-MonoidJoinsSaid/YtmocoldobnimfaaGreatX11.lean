/- Texts of this proof: K5 K6 K13 K12. -/
import Derived.Test.YtmocoldobnimfaaGreatX10
set_option linter.all false
set_option maxRecDepth 100000
namespace Go.Proofs.YtmocoldobnimfaaGreat
section
open Go.RowKit
attribute [local go_sem ↓] Go.wp_at_zero Go.wp_at_succ
structure Hl where
 A:Option Addr
 c:Nat
 l:List Nat
def flatL (hs:List Hl):List Value:=hs.map fun h=>.slice h.A (castL h.l).length h.c
theorem flatL_len (l:List Hl):(flatL l).length=l.length:=by simp[flatL]
structure LN (w:World)(A:Option Addr)(c:Nat)(hs:List Hl):Prop where
 le:hs.length≤c
 cap:c≤maxLen
 il:∀h∈hs,IL w h.A h.c (castL h.l)
 at_:hs≠[]→∃b o,A=some ⟨b,o,none⟩∧∀i (h:i<hs.length),w.cell? ⟨b,o+i,none⟩=some (.slice hs[i].A (castL hs[i].l).length hs[i].c)
namespace LN
variable {w w':World} {A:Option Addr} {c:Nat} {hs:List Hl}
theorem ext (h:LN w A c hs)(k:Ext w w'):LN w' A c hs:=by
 refine⟨h.le,h.cap,fun z hz=>(h.il z hz).ext k,fun hn=>?_⟩;obtain⟨b,o,rfl,hc⟩:=h.at_ hn;exact⟨b,o,rfl,fun i hi=>k.cell (hc i hi)⟩
theorem nil (w:World):LN w none 0 []:=⟨Nat.le_refl _,Nat.zero_le _,by simp,fun h=>absurd rfl h⟩
theorem len (h:LN w A c hs):hs.length≤c∧c≤9223372036854775807:=⟨h.le,by have:=h.cap;unfold maxLen at this;omega⟩
theorem get {k:Nat}(h:LN w A c hs)(hk:k<hs.length):∃b o,A=some ⟨b,o,none⟩∧w.cell? ⟨b,o+k,none⟩=some (.slice hs[k].A (castL hs[k].l).length hs[k].c):=by
 obtain⟨b,o,rfl,hc⟩:=h.at_ (by intro h0;subst h0;simp at hk);exact⟨b,o,rfl,hc k hk⟩
theorem of_own {base T:Nat}(h:OwnS w base T 1 A hs.length c (flatL hs))(hil:∀z∈hs,IL w z.A z.c (castL z.l)):LN w A c hs:=by
 have hc:=OwnS.caps h;refine⟨hc.1,by unfold maxLen;omega,hil,fun hn=>?_⟩;obtain⟨b,o,hA,hcell⟩:=OwnS.cells h (by intro e;have:=flatL_len hs;rw[e] at this;simp at this;exact hn (List.length_eq_zero_iff.1 om));refine⟨b,o,hA,fun i hi=>?_⟩;have:=hcell i (by rw[flatL_len];exact hi)
 simpa[flatL] using this
end LN
def stsOf (hs:List Hl):List (List Nat):=hs.map (·.l)
theorem stsOf_len (hs:List Hl):(stsOf hs).length=hs.length:=by simp[stsOf]
def plc (L:List (List Nat))(s:List Nat):Int:=if s∈L then(L.idxOf s:Nat) else -1
end
section
open Go.RowKit
structure Hz where
 A:Option Addr
 c:Nat
 l:List Int
def flatZ (hs:List Hz):List Value:=hs.map fun h=>.slice h.A h.l.length h.c
theorem flatZ_len (l:List Hz):(flatZ l).length=l.length:=by simp[flatZ]
def Hl.z (h:Hl):Hz:=⟨h.A,h.c,castL h.l⟩
structure SZ (w:World)(base:Nat)(A:Option Addr)(c:Nat)(hs:List Hz):Prop where
 own:OwnS w base 22 1 A hs.length c (flatZ hs)
 il:∀h∈hs,IL w h.A h.c h.l
 ap:∀h∈hs,h.l≠[]→∀b,h.A.map (·.block)=some b→A.map (·.block)≠some b
theorem IL.kpz {p:Nat→Prop}{w w':World}{A:Option Addr}{c:Nat}{xs:List Int}(h:IL w A c xs)(k:KpP p w w')(hn:xs≠[]→∀b,A.map (·.block)=some b→¬p b):IL w' A c xs:=by
 refine⟨h.le,h.cap,h.rng,fun hx=>?_⟩;obtain⟨b,o,rfl,hc⟩:=h.at_ hx;refine⟨b,o,rfl,fun i hi=>?_⟩;have h1:=hc i hi;rw[World.cell?_of_block (w:=w) (k.block b (World.block_lt_of_cell? _ _ h1) (hn hx b rfl))];exact h1
namespace SZ
variable {w w':World} {base c:Nat} {A:Option Addr} {hs:List Hz}
theorem ext (h:SZ w base A c hs)(x:Ext w w'):SZ w' base A c hs:=⟨OwnS.ext h.own x,fun z hz=>(h.il z hz).ext x,h.ap⟩
theorem nil (w:World)(base:Nat):SZ w base none 0 []:=⟨OwnS.nil _ _ _ _,by simp,by simp⟩
theorem kp {p:Nat→Prop}(h:SZ w base A c hs)(k:KpP p w w')(h1:∀b,A.map (·.block)=some b→¬p b)(h2:∀z∈hs,z.l≠[]→∀b,z.A.map (·.block)=some b→¬p b):SZ w' base A c hs:=
 ⟨OwnS.kp h.own k h1,fun z hz=>(h.il z hz).kpz k (h2 z hz),h.ap⟩
theorem one {z:Hz}{g:Nat}(hb:Blk w g 22 #[.slice z.A z.l.length z.c])(hg:base≤g)(hz:IL w z.A z.c z.l)(hn:z.l≠[]→∀b,z.A.map (·.block)=some b→b≠g):SZ w base (some ⟨g,0,none⟩) 1 [z]:=by
 refine⟨OwnS.of_blk (size:=1) (c:=1) (n:=1) hb hg rfl (Nat.le_refl _) um,?_,?_⟩
 ·intro y hy;have:y=z:=by simpa using hy
  subst this;exact hz
 ·intro y hy hx b hb2 e;have:y=z:=by simpa using hy
  subst this;have:g=b:=by simpa using e
  exact hn hx b hb2 this.symm
theorem cells (h:SZ w base A c hs):CellsAt w A (flatZ hs):=OwnS.cells h.own
theorem get {k:Nat}(h:SZ w base A c hs)(hk:k<hs.length):∃b o,A=some ⟨b,o,none⟩∧w.cell? ⟨b,o+k,none⟩=some (.slice hs[k].A hs[k].l.length hs[k].c):=by
 obtain⟨b,o,hA,hcell⟩:=h.cells (by intro e;have:=flatZ_len hs;rw[e] at this;simp at this;omega);refine⟨b,o,hA,?_⟩;have:=hcell k (by rw[flatZ_len];exact hk)
 simpa[flatZ] using this
end SZ
structure WdI (f:St→Int→St)(cs:List Int)(dn:St→Bool)(R:List St)(s:St)(hs:List St)(ws:List (List Int))(i k:Nat):Prop where
 len:ws.length=hs.length
 head:s∈hs
 nd:hs.Nodup
 inR:∀x∈hs,x=s∨x∈R
 word:∀j (h1:j<hs.length) (h2:j<ws.length),ws[j].foldl f s=hs[j]∧∀c∈ws[j],c∈cs
 clo:∀j (h1:j<hs.length) q (h2:q<cs.length),j<i∨(j=i∧q<k)→dn (f hs[j] cs[q])=false∧(f hs[j] cs[q]=[]∨f hs[j] cs[q]∈hs)
namespace WdI
variable {f:St→Int→St} {cs:List Int} {dn:St→Bool} {R:List St} {s:St} {hs:List St} {ws:List (List Int)} {i k:Nat}
theorem start (f:St→Int→St)(cs:List Int)(dn:St→Bool)(R:List St)(s:St):WdI f cs dn R s [s] [[]] 0 0:=by
 refine⟨rfl,by simp,by simp,fun x hx=>.inl (by simpa using hx),fun j h1 h2=>?_,fun j h1 q h2 h=>om⟩;have:j=0:=by simpa using h1
 subst this;simp
theorem skip (h:WdI f cs dn R s hs ws i k)(hi:i<hs.length)(hk:k<cs.length)(hd:dn (f hs[i] cs[k])=false)(ht:f hs[i] cs[k]=[]∨f hs[i] cs[k]∈hs):WdI f cs dn R s hs ws i (k+1):=by
 refine⟨h.len,h.head,h.nd,h.inR,h.word,fun j h1 q h2 hjq=>?_⟩;by_cases he:j=i∧q=k
 ·obtain⟨rfl,rfl⟩:=he;exact⟨hd,ht⟩
 ·exact h.clo j h1 q h2 om
theorem add (h:WdI f cs dn R s hs ws i k)(hi:i<hs.length)(hk:k<cs.length)(hd:dn (f hs[i] cs[k])=false)(hn:f hs[i] cs[k]∉hs)(hR:f hs[i] cs[k]∈R)(hw:i<ws.length) :
 WdI f cs dn R s (hs++[f hs[i] cs[k]]) (ws++[ws[i]++[cs[k]]]) i (k+1):=by
 refine⟨by simp[h.len],by simp[h.head],?_,fun x hx=>?_,fun j h1 h2=>?_,fun j h1 q h2 hjq=>?_⟩
 ·rw[List.nodup_append];exact⟨h.nd,by simp,fun a ha b hb=>by
   have:b=f hs[i] cs[k]:=by simpa using hb
   subst this;rintro rfl;exact hn ha⟩
 ·rcases List.mem_append.1 hx with hx|hx
  ·exact h.inR x hx
  ·have:x=f hs[i] cs[k]:=by simpa using hx
   exact .inr (this▸hR)
 ·by_cases hj:j<hs.length
  ·have hj2:j<ws.length:=by rw[h.len];exact hj
   rw[List.getElem_append_left hj2,List.getElem_append_left hj];exact h.word j hj hj2
  ·have hjl:j=hs.length:=by simp at h1;omega
   subst hjl;have e1:(hs++[f hs[i] cs[k]])[hs.length]'h1=f hs[i] cs[k]:=by simp
   have e2:(ws++[ws[i]++[cs[k]]])[hs.length]'h2=ws[i]++[cs[k]]:=by
    rw[List.getElem_append_right (by rw[h.len];exact Nat.le_refl _)];simp[h.len]
   rw[e1,e2,List.foldl_append,(h.word i hi hw).1];refine⟨rfl,fun c hc=>?_⟩;rcases List.mem_append.1 hc with hc|hc
   ·exact(h.word i hi hw).2 c hc
   ·have:c=cs[k]:=by simpa using hc
    subst this;exact List.getElem_mem hk
 ·have hjl:j≤i:=om;have hj:j<hs.length:=om;rw[List.getElem_append_left hj];by_cases he:j=i∧q=k
  ·obtain⟨rfl,rfl⟩:=he;exact⟨hd,.inr si⟩
  ·obtain⟨h3,h4⟩:=h.clo j hj q h2 om;exact⟨h3,h4.imp id (fun h5=>by simp[h5])⟩
theorem row (h:WdI f cs dn R s hs ws i k)(hk:cs.length≤k):WdI f cs dn R s hs ws (i+1) 0:=
 ⟨h.len,h.head,h.nd,h.inR,h.word,fun j h1 q h2 hjq=>h.clo j h1 q h2 om⟩
end WdI
theorem stateG_len {G:List Ins}(fs:List Nat):(stateG G fs).length≤G.length:=by
 have h1:∀(r:List Nat) (s:List Nat×List Nat),SeenOk G.length s.2→s.1.length≤s.2.length→(r.foldl (addR G (G.length+1)) s).1.length≤G.length:=by
  intro r;induction r with
  | nil=>intro s hs hl;have:=hs.len;simp only[List.foldl_nil];omega
  | cons p r ih=>
   intro s hs hl;rw[List.foldl_cons];refine ih _ (addR_ok _ _ _ hs) ?_;have:=addR_len G (G.length+1) s p;omega
 have h2:∀l:List Nat,(cutD G l).length≤l.length:=by
  intro l;induction l with
  | nil=>simp[cutD]
  | cons p r ih=>
   unfold cutD
   split
   ·simp
   ·simp only[List.length_cons];omega
 exact Nat.le_trans (h2 _) (h1 fs ([],[]) (SeenOk.nil _) (Nat.le_refl _))
end
section
open Go.RowKit
attribute [local go_sem ↓] Go.wp_at_zero Go.wp_at_succ
def rrun (G:List Ins)(s:St)(ts:List Int)(fr:Int):St×Int:=runR (nextG G) (doneG G) ts 0 s (if doneG G s=true∧fr=0 then 0 else -1)
theorem rrun_bd (G:List Ins)(s:St)(ts:List Int)(fr:Int) : -1≤(rrun G s ts fr).2∧(rrun G s ts fr).2≤ts.length:=by
 have gen:∀(l:List Int) (k:Nat) (s:St) (last:Int),-1≤last→last≤k→-1≤(runR (nextG G) (doneG G) l k s last).2∧(runR (nextG G) (doneG G) l k s last).2≤(k+l.length:Nat):=by
  intro l;induction l with
  | nil=>intro k s last h1 h2;simp only[runR,List.length_nil];omega
  | cons c l ih=>
   intro k s last h1 h2;rw[runR,List.length_cons];have:=ih (k+1) (nextG G s c) (if doneG G (nextG G s c)=true then((k+1:Nat):Int) else last) (by split<;>omega) (by split<;>omega);omega
 unfold rrun;have:=gen ts 0 s (if doneG G s=true∧fr=0 then 0 else -1) (by split<;>omega) (by split<;>omega)
 simpa using this
end
section
open Go.RowKit
attribute [local go_sem ↓] Go.wp_at_zero Go.wp_at_succ
theorem top_any (gA:Option Addr)(n gc:Nat)(caps:Int)(runes:Bool)(w:World):Calls Tryz.prog 68 #[progV gA n gc caps runes] w (RetV (.int .i64 (topV runes)) w):=by
 unfold progV;cases runes
 ·go_enter Tryz.func68,Tryz.ntmps68
  go_wp2
  go_ret
  exact⟨rfl,Ext.alloc _ _⟩
 ·go_enter Tryz.func68,Tryz.ntmps68
  go_wp2
  go_ret
  exact⟨rfl,Ext.alloc _ _⟩
def RetOut (runes:Bool)(w:World)(e:Ending)(w':World):Prop:=
 ∃(a b:Nat),e=.returned (.func (Fn.func 165) #[] #[.pointer (some ⟨a,0,none⟩),.pointer (some ⟨b,0,none⟩)])∧w'.cell? ⟨a,0,none⟩=some (.int .i64 (topV runes))∧w'.cell? ⟨b,0,none⟩=some (.bool runes)∧Ext w w'
theorem outside_any (runes:Bool)(w:World):Calls Tryz.prog 130 #[.bool runes] w (RetOut runes w):=by
 have hb:=Blk.new w 4 #[.bool runes];have e1:=Ext.alloc w (.cells #[.bool runes] 4);have h1:=fun(t:Int)=>(hb.ext (Ext.alloc (w.alloc (.cells #[.bool runes] 4)) (.cells #[.int .i64 t] 3))).cell 0;have h2:=fun(t:Int)=>(Blk.new (w.alloc (.cells #[.bool runes] 4)) 3 #[.int .i64 t]).cell 0;simp only[World.size_alloc] at h2;replace h1:=lh h1;replace h2:=lh h2;clear hb e1;cases runes
 ·go_enter Tryz.func130,Tryz.ntmps130
  go_wp2
  go_ret
  exact⟨_,_,rfl,h2.out 255,h1.out 255,(Ext.alloc _ _).trans (Ext.alloc _ _)⟩
 ·go_enter Tryz.func130,Tryz.ntmps130
  go_wp2
  go_ret
  exact⟨_,_,rfl,h2.out 1114111,h1.out 1114111,(Ext.alloc _ _).trans (Ext.alloc _ _)⟩
theorem K12z5 {P:Prop} (h:P:=by
 go_enter Tryz.func166,Tryz.ntmps166
 go_wp2
 go_ret
 exact⟨rfl,Ext.rfl' _⟩):P:=h
theorem surr_any (x:Int)(w:World):Calls Tryz.prog 166 #[.int .i64 x] w (RetV (.bool (decide (55296≤x∧x≤57343))) w):=by
 by_cases h1:55296≤x
 ·by_cases h2:x≤57343
  ·rw[decide_eq_true ⟨h1,h2⟩];exact K12z5
  ·rw[decide_eq_false (fun h=>h2 h.2)];exact K12z5
 ·rw[decide_eq_false (fun h=>h1 h.1)];exact K12z5
theorem K12z2 {P:Prop} (h:P:=by
 go_enter Tryz.func165,Tryz.ntmps165
 go_wp2
 go_ret
 exact⟨rfl,Ext.rfl' _⟩):P:=h
theorem K12z4 {P:Prop} (h:P:=by
 clear h3;go_enter Tryz.func165,Tryz.ntmps165
 go_wp2_with fail
 refine(hs _).out.mono ?_;rintro e w1 ⟨rfl,x1⟩
 go_wp2_with fail
 go_ret
 exact⟨rfl,x1⟩):P:=h
theorem outC_any (x:Int)(runes:Bool)(a b:Nat)(w:World)(ha:w.cell? ⟨a,0,none⟩=some (.int .i64 (topV runes)))(hb:w.cell? ⟨b,0,none⟩=some (.bool runes)) :
 Calls Tryz.prog 165 #[.int .i64 x,.pointer (some ⟨a,0,none⟩),.pointer (some ⟨b,0,none⟩)] w (RetV (.bool (!symV runes x)) w):=by
 have hs:=fun(w':World)=>lh (surr_any x w');cases runes
 ·have ht:topV false=255:=rfl;rw[ht] at ha;clear ht hs;by_cases h1:x<0
  ·rw[show symV false x=false by simp[symV];omega];exact K12z2
  ·by_cases h2:255<x
   ·rw[show symV false x=false by simp[symV];omega];exact K12z2
   ·rw[show symV false x=true by simp[symV];omega];exact K12z2
 ·have ht:topV true=1114111:=rfl;rw[ht] at ha;clear ht;by_cases h1:x<0
  ·rw[show symV true x=false by simp[symV];omega];exact K12z2
  ·by_cases h2:1114111<x
   ·rw[show symV true x=false by simp[symV];omega];exact K12z2
   ·by_cases h3:55296≤x∧x≤57343
    ·rw[decide_eq_true h3] at hs;rw[show symV true x=false by simp[symV];omega];exact K12z4
    ·rw[decide_eq_false h3] at hs;rw[show symV true x=true by simp[symV];omega];exact K12z4
theorem allV_bad {runes:Bool}{l:List Int}{k:Nat}(hk:k<l.length)(h:symV runes l[k]=false):l.all (symV runes)=false:=by
 rw[List.all_eq_false];exact⟨l[k],List.getElem_mem hk,by simp[h]⟩
theorem allV_step {runes:Bool}{l:List Int}{k:Nat}(hk:k<l.length)(h0:(l.take k).all (symV runes)=true)(h:symV runes l[k]=true):(l.take (k+1)).all (symV runes)=true:=by
 rw[List.take_succ_eq_append_getElem hk,List.all_append,h0];simp[h]
theorem tindex_any (A:Option Addr)(c:Nat)(l:List Int)(runes:Bool)(a b:Nat)(w:World)(hl:IL w A c l)(ha:w.cell? ⟨a,0,none⟩=some (.int .i64 (topV runes)))(hb:w.cell? ⟨b,0,none⟩=some (.bool runes)) :
 Calls Tryz.prog 164 #[.slice A l.length c,.func (Fn.func 165) #[] #[.pointer (some ⟨a,0,none⟩),.pointer (some ⟨b,0,none⟩)]] w fun e w'=>∃k:Int,e=.returned (.int .i64 k)∧(decide (0≤k) = !l.all (symV runes))∧Ext w w':=by
 obtain⟨a1,a2⟩:=hl.len;go_enter Tryz.func164,Tryz.ntmps164
 go_wp2
 go_loopw [8] (fun i wr=>∃k:Nat,k≤l.length∧i=.int .i64 k∧Hid ((l.take k).all (symV runes)=true)∧Ext w wr) (fun i _=>l.length-(intOf i).toNat)
 case atStart=>exact⟨0,Nat.zero_le _,rfl,rfl,Ext.rfl' _⟩
 case round=>
  obtain⟨k,hk,rfl,ht,hext⟩:=hrel;by_cases hlt:k<l.length
  ·obtain⟨p1,o1,rfl,g1⟩:=hl.get hlt;replace g1:=hext.cell g1;have hlt2:(k:Int)<l.length:=om;have HC:=lh (outC_any l[k] runes a b wr (hext.cell ha) (hext.cell hb));by_cases hs:symV runes l[k]=true
   ·have hs2:=lh (allV_step hlt ht.out hs);rw[hs] at HC;generalize l[k]=y at *;clear hs ht
    go_wp2_with fail
    refine HC.out.mono ?_;rintro e w1 ⟨rfl,hx1⟩;have xf:=hext.trans hx1
    go_wp2
    go_roundw
    case rel=>exact⟨k+1,om,by go_num,hs2,xf⟩
    case measure=>simp[intOf];omega
   ·have hs1:symV runes l[k]=false:=by simpa using hs
    have hbad:=lh (allV_bad hlt hs1);rw[hs1] at HC;generalize l[k]=y at *;clear hs ht hs1
    go_wp2_with fail
    refine HC.out.mono ?_;rintro e w1 ⟨rfl,hx1⟩
    go_wp2
    go_ret
    exact⟨_,rfl,by rw[hbad.out];simp,hext.trans hx1⟩
  ·go_wp2
   go_ret
   have h1:=ht.out;rw[List.take_of_length_le om] at h1;exact⟨_,rfl,by rw[h1];simp,hext⟩
theorem tcontains_any (A:Option Addr)(c:Nat)(l:List Int)(runes:Bool)(a b:Nat)(w:World)(hl:IL w A c l)(ha:w.cell? ⟨a,0,none⟩=some (.int .i64 (topV runes)))(hb:w.cell? ⟨b,0,none⟩=some (.bool runes)) :
 Calls Tryz.prog 129 #[.slice A l.length c,.func (Fn.func 165) #[] #[.pointer (some ⟨a,0,none⟩),.pointer (some ⟨b,0,none⟩)]] w (RetV (.bool (!l.all (symV runes))) w):=by
 have HX:=lh (tindex_any A c l runes a b w hl ha hb);generalize l.all (symV runes)=al at *;cases al
 ·go_enter Tryz.func129,Tryz.ntmps129
  go_wp2_with fail
  refine HX.out.mono ?_;rintro e w2 ⟨k,rfl,hk,x2⟩;have hk0:decide (0≤k)=true:=hk;clear hk
  go_wp2_with fail
  go_ret
  exact⟨rfl,x2⟩
 ·go_enter Tryz.func129,Tryz.ntmps129
  go_wp2_with fail
  refine HX.out.mono ?_;rintro e w2 ⟨k,rfl,hk,x2⟩;have hk0:decide (0≤k)=false:=hk;clear hk
  go_wp2_with fail
  go_ret
  exact⟨rfl,x2⟩
def textE (runes:Bool)(l:List Int):Int:=if 65536<l.length then 4 else if l.all (symV runes)=true then 0 else 5
theorem K12z3 {P:Prop} (h:P:=by
 go_enter Tryz.func79,Tryz.ntmps79
 go_wp2_with fail
 refine HO.out.mono ?_;rintro e w1 ⟨a,b,rfl,h1,h2,x1⟩;have HX2:=HX a b w1 x1 h1 h2;clear HX
 go_wp2_with fail
 refine HX2.out.mono ?_;rintro e w2 ⟨rfl,x2⟩
 go_wp2_with fail
 go_ret
 exact⟨rfl,x1.trans x2⟩):P:=h
theorem tvalid_any (A:Option Addr)(c:Nat)(l:List Int)(runes:Bool)(w:World)(hl:IL w A c l):Calls Tryz.prog 79 #[.slice A l.length c,.bool runes] w (RetV (.int .i64 (textE runes l)) w):=by
 have hcap:=hl.len;by_cases hb:65536<l.length
 ·have hbI:(65536:Int)<l.length:=om;have e:textE runes l=4:=by unfold textE;rw[if_pos hb]
  rw[e];clear e;go_enter Tryz.func79,Tryz.ntmps79
  go_wp2
  go_ret
  exact⟨rfl,Ext.rfl' _⟩
 ·have hbI:¬(65536:Int)<l.length:=om;have HO:=lh (outside_any runes w);have e:textE runes l=if l.all (symV runes)=true then 0 else 5:=by unfold textE;rw[if_neg hb]
  rw[e];clear e hb;have HX:=fun(a b:Nat) (w':World) (x:Ext w w') h1 h2=>lh (tcontains_any A c l runes a b w' (hl.ext x) h1 h2);generalize l.all (symV runes)=al at *;cases al
  ·exact K12z3
  ·exact K12z3
end
end Go.Proofs.YtmocoldobnimfaaGreat
