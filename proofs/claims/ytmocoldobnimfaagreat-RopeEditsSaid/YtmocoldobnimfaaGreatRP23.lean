/- Texts of this proof: K4 K5 K6 K13. -/
import Derived.Test.YtmocoldobnimfaaGreatRP20
set_option linter.all false
namespace Go.Proofs.YtmocoldobnimfaaGreat
section
open Go.RowKit
attribute [local go_sem ↓] Go.wp_at_zero Go.wp_at_succ
def nxUp (G:List Ins)(c:Int)(l:List Nat)(i:Nat):List Nat:=((l.take i).filter (symAt G c)).map (·+1)
theorem nxUp_yes {G:List Ins}{c:Int}{l:List Nat}{i:Nat}(h:i<l.length)(hs:symAt G c l[i]=true):nxUp G c l (i+1)=nxUp G c l i++[l[i]+1]:=by
 unfold nxUp;rw[List.take_succ_eq_append_getElem h,List.filter_append,List.map_append];simp[hs]
theorem nxUp_no {G:List Ins}{c:Int}{l:List Nat}{i:Nat}(h:i<l.length)(hs:symAt G c l[i]=false):nxUp G c l (i+1)=nxUp G c l i:=by
 unfold nxUp;rw[List.take_succ_eq_append_getElem h,List.filter_append,List.map_append];simp[hs]
theorem nxUp_all (G:List Ins)(c:Int)(l:List Nat):nextG G l c=stateG G (nxUp G c l l.length):=by
 unfold nextG nxUp;rw[List.take_length]
theorem nxUp_len (G:List Ins)(c:Int)(l:List Nat)(i:Nat):(nxUp G c l i).length≤i:=by
 unfold nxUp;rw[List.length_map];exact Nat.le_trans (List.length_filter_le _ _) (by rw[List.length_take];omega)
theorem symAt_get {hs:List Hin}{p:Nat}(h:p<hs.length)(c:Int):symAt (insL hs) c p=(decide (hs[p].op=1)&&has hs[p].l c):=by
 unfold symAt;rw[insL_get h];rfl
theorem nxUp_lt {hs:List Hin}{runes:Bool}{caps:Int}(hG:GOk runes caps (insL hs)){c:Int}{l:List Nat}(hl:∀p∈l,p<hs.length)(i:Nat):∀q∈nxUp (insL hs) c l i,q<hs.length:=by
 intro q hq;unfold nxUp at hq;obtain⟨p,hp,rfl⟩:=List.mem_map.1 hq;obtain⟨hp1,hp2⟩:=List.mem_filter.1 hp;have hpl:=hl p (List.mem_of_mem_take hp1);rw[symAt_get hpl] at hp2;simp only[Bool.and_eq_true,decide_eq_true_eq] at hp2;have:=hG.next (k:=p) (by rw[insL_len];exact hpl) (by rw[insL_getElem];exact .inl hp2.1)
 rwa [insL_len] at this
end
section
open Go.RowKit
attribute [local go_sem ↓] Go.wp_at_zero Go.wp_at_succ
structure Hl where
 A:Option Addr
 c:Nat
 l:List Nat
def flatL (hs:List Hl):List Value:=hs.map fun h=>.slice h.A (castL h.l).length h.c
theorem flatL_len (l:List Hl):(flatL l).length=l.length:=by simp[flatL]
structure LN (w:World)(A:Option Addr)(c:Nat)(hs:List Hl):Prop where
 le:hs.length≤c
 cap:c≤maxLen
 il:∀h∈hs,IL w h.A h.c (castL h.l)
 at_:hs≠[]→∃b o,A=some ⟨b,o,none⟩∧∀i (h:i<hs.length),w.cell? ⟨b,o+i,none⟩=some (.slice hs[i].A (castL hs[i].l).length hs[i].c)
namespace LN
variable {w w':World} {A:Option Addr} {c:Nat} {hs:List Hl}
theorem ext (h:LN w A c hs)(k:Ext w w'):LN w' A c hs:=by
 refine⟨h.le,h.cap,fun z hz=>(h.il z hz).ext k,fun hn=>?_⟩;obtain⟨b,o,rfl,hc⟩:=h.at_ hn;exact⟨b,o,rfl,fun i hi=>k.cell (hc i hi)⟩
theorem nil (w:World):LN w none 0 []:=⟨Nat.le_refl _,Nat.zero_le _,by simp,fun h=>absurd rfl h⟩
theorem len (h:LN w A c hs):hs.length≤c∧c≤9223372036854775807:=⟨h.le,by have:=h.cap;unfold maxLen at this;omega⟩
theorem get {k:Nat}(h:LN w A c hs)(hk:k<hs.length):∃b o,A=some ⟨b,o,none⟩∧w.cell? ⟨b,o+k,none⟩=some (.slice hs[k].A (castL hs[k].l).length hs[k].c):=by
 obtain⟨b,o,rfl,hc⟩:=h.at_ (by intro h0;subst h0;simp at hk);exact⟨b,o,rfl,hc k hk⟩
theorem of_own {base T:Nat}(h:OwnS w base T 1 A hs.length c (flatL hs))(hil:∀z∈hs,IL w z.A z.c (castL z.l)):LN w A c hs:=by
 have hc:=OwnS.caps h;refine⟨hc.1,by unfold maxLen;omega,hil,fun hn=>?_⟩;obtain⟨b,o,hA,hcell⟩:=OwnS.cells h (by intro e;have:=flatL_len hs;rw[e] at this;simp at this;exact hn (List.length_eq_zero_iff.1 om));refine⟨b,o,hA,fun i hi=>?_⟩;have:=hcell i (by rw[flatL_len];exact hi)
 simpa[flatL] using this
end LN
def stsOf (hs:List Hl):List (List Nat):=hs.map (·.l)
theorem stsOf_len (hs:List Hl):(stsOf hs).length=hs.length:=by simp[stsOf]
def plc (L:List (List Nat))(s:List Nat):Int:=if s∈L then(L.idxOf s:Nat) else -1
end
section
open Go.RowKit
structure Hz where
 A:Option Addr
 c:Nat
 l:List Int
def flatZ (hs:List Hz):List Value:=hs.map fun h=>.slice h.A h.l.length h.c
theorem flatZ_len (l:List Hz):(flatZ l).length=l.length:=by simp[flatZ]
def Hl.z (h:Hl):Hz:=⟨h.A,h.c,castL h.l⟩
structure SZ (w:World)(base:Nat)(A:Option Addr)(c:Nat)(hs:List Hz):Prop where
 own:OwnS w base 22 1 A hs.length c (flatZ hs)
 il:∀h∈hs,IL w h.A h.c h.l
 ap:∀h∈hs,h.l≠[]→∀b,h.A.map (·.block)=some b→A.map (·.block)≠some b
theorem IL.kpz {p:Nat→Prop}{w w':World}{A:Option Addr}{c:Nat}{xs:List Int}(h:IL w A c xs)(k:KpP p w w')(hn:xs≠[]→∀b,A.map (·.block)=some b→¬p b):IL w' A c xs:=by
 refine⟨h.le,h.cap,h.rng,fun hx=>?_⟩;obtain⟨b,o,rfl,hc⟩:=h.at_ hx;refine⟨b,o,rfl,fun i hi=>?_⟩;have h1:=hc i hi;rw[World.cell?_of_block (w:=w) (k.block b (World.block_lt_of_cell? _ _ h1) (hn hx b rfl))];exact h1
namespace SZ
variable {w w':World} {base c:Nat} {A:Option Addr} {hs:List Hz}
theorem ext (h:SZ w base A c hs)(x:Ext w w'):SZ w' base A c hs:=⟨OwnS.ext h.own x,fun z hz=>(h.il z hz).ext x,h.ap⟩
theorem nil (w:World)(base:Nat):SZ w base none 0 []:=⟨OwnS.nil _ _ _ _,by simp,by simp⟩
theorem kp {p:Nat→Prop}(h:SZ w base A c hs)(k:KpP p w w')(h1:∀b,A.map (·.block)=some b→¬p b)(h2:∀z∈hs,z.l≠[]→∀b,z.A.map (·.block)=some b→¬p b):SZ w' base A c hs:=
 ⟨OwnS.kp h.own k h1,fun z hz=>(h.il z hz).kpz k (h2 z hz),h.ap⟩
theorem one {z:Hz}{g:Nat}(hb:Blk w g 22 #[.slice z.A z.l.length z.c])(hg:base≤g)(hz:IL w z.A z.c z.l)(hn:z.l≠[]→∀b,z.A.map (·.block)=some b→b≠g):SZ w base (some ⟨g,0,none⟩) 1 [z]:=by
 refine⟨OwnS.of_blk (size:=1) (c:=1) (n:=1) hb hg rfl (Nat.le_refl _) um,?_,?_⟩
 ·intro y hy;have:y=z:=by simpa using hy
  subst this;exact hz
 ·intro y hy hx b hb2 e;have:y=z:=by simpa using hy
  subst this;have:g=b:=by simpa using e
  exact hn hx b hb2 this.symm
theorem cells (h:SZ w base A c hs):CellsAt w A (flatZ hs):=OwnS.cells h.own
theorem get {k:Nat}(h:SZ w base A c hs)(hk:k<hs.length):∃b o,A=some ⟨b,o,none⟩∧w.cell? ⟨b,o+k,none⟩=some (.slice hs[k].A hs[k].l.length hs[k].c):=by
 obtain⟨b,o,hA,hcell⟩:=h.cells (by intro e;have:=flatZ_len hs;rw[e] at this;simp at this;omega);refine⟨b,o,hA,?_⟩;have:=hcell k (by rw[flatZ_len];exact hk)
 simpa[flatZ] using this
end SZ
structure WdI (f:St→Int→St)(cs:List Int)(dn:St→Bool)(R:List St)(s:St)(hs:List St)(ws:List (List Int))(i k:Nat):Prop where
 len:ws.length=hs.length
 head:s∈hs
 nd:hs.Nodup
 inR:∀x∈hs,x=s∨x∈R
 word:∀j (h1:j<hs.length) (h2:j<ws.length),ws[j].foldl f s=hs[j]∧∀c∈ws[j],c∈cs
 clo:∀j (h1:j<hs.length) q (h2:q<cs.length),j<i∨(j=i∧q<k)→dn (f hs[j] cs[q])=false∧(f hs[j] cs[q]=[]∨f hs[j] cs[q]∈hs)
namespace WdI
variable {f:St→Int→St} {cs:List Int} {dn:St→Bool} {R:List St} {s:St} {hs:List St} {ws:List (List Int)} {i k:Nat}
theorem start (f:St→Int→St)(cs:List Int)(dn:St→Bool)(R:List St)(s:St):WdI f cs dn R s [s] [[]] 0 0:=by
 refine⟨rfl,by simp,by simp,fun x hx=>.inl (by simpa using hx),fun j h1 h2=>?_,fun j h1 q h2 h=>om⟩;have:j=0:=by simpa using h1
 subst this;simp
theorem skip (h:WdI f cs dn R s hs ws i k)(hi:i<hs.length)(hk:k<cs.length)(hd:dn (f hs[i] cs[k])=false)(ht:f hs[i] cs[k]=[]∨f hs[i] cs[k]∈hs):WdI f cs dn R s hs ws i (k+1):=by
 refine⟨h.len,h.head,h.nd,h.inR,h.word,fun j h1 q h2 hjq=>?_⟩;by_cases he:j=i∧q=k
 ·obtain⟨rfl,rfl⟩:=he;exact⟨hd,ht⟩
 ·exact h.clo j h1 q h2 om
theorem add (h:WdI f cs dn R s hs ws i k)(hi:i<hs.length)(hk:k<cs.length)(hd:dn (f hs[i] cs[k])=false)(hn:f hs[i] cs[k]∉hs)(hR:f hs[i] cs[k]∈R)(hw:i<ws.length) :
 WdI f cs dn R s (hs++[f hs[i] cs[k]]) (ws++[ws[i]++[cs[k]]]) i (k+1):=by
 refine⟨by simp[h.len],by simp[h.head],?_,fun x hx=>?_,fun j h1 h2=>?_,fun j h1 q h2 hjq=>?_⟩
 ·rw[List.nodup_append];exact⟨h.nd,by simp,fun a ha b hb=>by
   have:b=f hs[i] cs[k]:=by simpa using hb
   subst this;rintro rfl;exact hn ha⟩
 ·rcases List.mem_append.1 hx with hx|hx
  ·exact h.inR x hx
  ·have:x=f hs[i] cs[k]:=by simpa using hx
   exact .inr (this▸hR)
 ·by_cases hj:j<hs.length
  ·have hj2:j<ws.length:=by rw[h.len];exact hj
   rw[List.getElem_append_left hj2,List.getElem_append_left hj];exact h.word j hj hj2
  ·have hjl:j=hs.length:=by simp at h1;omega
   subst hjl;have e1:(hs++[f hs[i] cs[k]])[hs.length]'h1=f hs[i] cs[k]:=by simp
   have e2:(ws++[ws[i]++[cs[k]]])[hs.length]'h2=ws[i]++[cs[k]]:=by
    rw[List.getElem_append_right (by rw[h.len];exact Nat.le_refl _)];simp[h.len]
   rw[e1,e2,List.foldl_append,(h.word i hi hw).1];refine⟨rfl,fun c hc=>?_⟩;rcases List.mem_append.1 hc with hc|hc
   ·exact(h.word i hi hw).2 c hc
   ·have:c=cs[k]:=by simpa using hc
    subst this;exact List.getElem_mem hk
 ·have hjl:j≤i:=om;have hj:j<hs.length:=om;rw[List.getElem_append_left hj];by_cases he:j=i∧q=k
  ·obtain⟨rfl,rfl⟩:=he;exact⟨hd,.inr si⟩
  ·obtain⟨h3,h4⟩:=h.clo j hj q h2 om;exact⟨h3,h4.imp id (fun h5=>by simp[h5])⟩
theorem row (h:WdI f cs dn R s hs ws i k)(hk:cs.length≤k):WdI f cs dn R s hs ws (i+1) 0:=
 ⟨h.len,h.head,h.nd,h.inR,h.word,fun j h1 q h2 hjq=>h.clo j h1 q h2 om⟩
end WdI
theorem stateG_len {G:List Ins}(fs:List Nat):(stateG G fs).length≤G.length:=by
 have h1:∀(r:List Nat) (s:List Nat×List Nat),SeenOk G.length s.2→s.1.length≤s.2.length→(r.foldl (addR G (G.length+1)) s).1.length≤G.length:=by
  intro r;induction r with
  | nil=>intro s hs hl;have:=hs.len;simp only[List.foldl_nil];omega
  | cons p r ih=>
   intro s hs hl;rw[List.foldl_cons];refine ih _ (addR_ok _ _ _ hs) ?_;have:=addR_len G (G.length+1) s p;omega
 have h2:∀l:List Nat,(cutD G l).length≤l.length:=by
  intro l;induction l with
  | nil=>simp[cutD]
  | cons p r ih=>
   unfold cutD
   split
   ·simp
   ·simp only[List.length_cons];omega
 exact Nat.le_trans (h2 _) (h1 fs ([],[]) (SeenOk.nil _) (Nat.le_refl _))
end
section
open Go.RowKit
attribute [local go_sem ↓] Go.wp_at_zero Go.wp_at_succ
def rrun (G:List Ins)(s:St)(ts:List Int)(fr:Int):St×Int:=runR (nextG G) (doneG G) ts 0 s (if doneG G s=true∧fr=0 then 0 else -1)
theorem rrun_bd (G:List Ins)(s:St)(ts:List Int)(fr:Int) : -1≤(rrun G s ts fr).2∧(rrun G s ts fr).2≤ts.length:=by
 have gen:∀(l:List Int) (k:Nat) (s:St) (last:Int),-1≤last→last≤k→-1≤(runR (nextG G) (doneG G) l k s last).2∧(runR (nextG G) (doneG G) l k s last).2≤(k+l.length:Nat):=by
  intro l;induction l with
  | nil=>intro k s last h1 h2;simp only[runR,List.length_nil];omega
  | cons c l ih=>
   intro k s last h1 h2;rw[runR,List.length_cons];have:=ih (k+1) (nextG G s c) (if doneG G (nextG G s c)=true then((k+1:Nat):Int) else last) (by split<;>omega) (by split<;>omega);omega
 unfold rrun;have:=gen ts 0 s (if doneG G s=true∧fr=0 then 0 else -1) (by split<;>omega) (by split<;>omega)
 simpa using this
end
end Go.Proofs.YtmocoldobnimfaaGreat
