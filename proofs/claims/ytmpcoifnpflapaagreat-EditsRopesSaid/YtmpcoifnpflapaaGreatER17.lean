/- Texts of this proof: K5 K6 K13 K12. -/
import Derived.Test.YtmpcoifnpflapaaGreatER15
set_option linter.all false
set_option maxRecDepth 100000
namespace Go.Proofs.YtmpcoifnpflapaaGreat
section
open Go.RowKit
attribute [local go_sem ↓] Go.wp_at_zero Go.wp_at_succ
structure Hl where
 A:Option Addr
 c:Nat
 l:List Nat
def flatL (hs:List Hl):List Value:=hs.map fun h=>.slice h.A (castL h.l).length h.c
structure LN (w:World)(A:Option Addr)(c:Nat)(hs:List Hl):Prop where
 le:hs.length<=c
 cap:c<=maxLen
 il:∀h∈hs,IL w h.A h.c (castL h.l)
 at_:hs≠[]->∃b o,A=some ⟨b,o,none⟩/\∀i (h:i<hs.length),w.cell? ⟨b,o+i,none⟩=some (.slice hs[i].A (castL hs[i].l).length hs[i].c)
namespace LN
variable {w w':World} {A:Option Addr} {c:Nat} {hs:List Hl}
end LN
def stsOf (hs:List Hl):List (List Nat):=hs.map (·.l)
theorem stsOf_len (hs:List Hl):(stsOf hs).length=hs.length:=by simp[stsOf]
end
section
open Go.RowKit
structure Hz where
 A:Option Addr
 c:Nat
 l:List Int
def flatZ (hs:List Hz):List Value:=hs.map fun h=>.slice h.A h.l.length h.c
structure SZ (w:World)(base:Nat)(A:Option Addr)(c:Nat)(hs:List Hz):Prop where
 own:OwnS w base 22 1 A hs.length c (flatZ hs)
 il:∀h∈hs,IL w h.A h.c h.l
 ap:∀h∈hs,h.l≠[]->∀b,h.A.map (·.block)=some b->A.map (·.block)≠some b
namespace SZ
variable {w w':World} {base c:Nat} {A:Option Addr} {hs:List Hz}
end SZ
structure WdI (f:St->Int->St)(cs:List Int)(dn:St->Bool)(R:List St)(s:St)(hs:List St)(ws:List (List Int))(i k:Nat):Prop where
 len:ws.length=hs.length
 head:s∈hs
 nd:hs.Nodup
 inR:∀x∈hs,x=s\/x∈R
 word:∀j (h1:j<hs.length) (h2:j<ws.length),ws[j].foldl f s=hs[j]/\∀c∈ws[j],c∈cs
 clo:∀j (h1:j<hs.length) q (h2:q<cs.length),j<i\/(j=i/\q<k)->dn (f hs[j] cs[q])=false/\(f hs[j] cs[q]=[]\/f hs[j] cs[q]∈hs)
namespace WdI
variable {f:St->Int->St} {cs:List Int} {dn:St->Bool} {R:List St} {s:St} {hs:List St} {ws:List (List Int)} {i k:Nat}
end WdI
theorem stateG_len {G:List Ins}(fs:List Nat):(stateG G fs).length<=G.length:=by
 have h1:∀(r:List Nat) (s:List Nat×List Nat),SeenOk G.length s.2->s.1.length<=s.2.length->(r.foldl (addR G (G.length+1)) s).1.length<=G.length:=by
  intro r;induction r with
  | nil=>intro s hs hl;have:=hs.len;simp only[List.foldl_nil];omega
  | cons p r ih=>
   intro s hs hl;rw[List.foldl_cons];refine ih _ (addR_ok _ _ _ hs) ?_;have:=addR_len G (G.length+1) s p;omega
 have h2:∀l:List Nat,(cutD G l).length<=l.length:=by
  intro l;induction l with
  | nil=>simp[cutD]
  | cons p r ih=>
   unfold cutD
   split
   ·simp
   ·simp only[List.length_cons];omega
 exact Nat.le_trans (h2 _) (h1 fs ([],[]) (SeenOk.nil _) (Nat.le_refl _))
end
section
open Go.RowKit
attribute [local go_sem ↓] Go.wp_at_zero Go.wp_at_succ
theorem top_any (gA:Option Addr)(n gc:Nat)(caps:Int)(runes:Bool)(w:World):Calls Tryz.prog 69 #[progV gA n gc caps runes] w (RetV (.int .i64 (topV runes)) w):=by
 unfold progV;cases runes
 ·go_enter Tryz.func69,Tryz.ntmps69
  go_wp2
  go_ret
  exact⟨rfl,Ext.alloc _ _⟩
 ·go_enter Tryz.func69,Tryz.ntmps69
  go_wp2
  go_ret
  exact⟨rfl,Ext.alloc _ _⟩
def RetOut (runes:Bool)(w:World)(e:Ending)(w':World):Prop:=
 ∃(a b:Nat),e=.returned (.func (Fn.func 192) #[] #[.pointer (some ⟨a,0,none⟩),.pointer (some ⟨b,0,none⟩)])/\w'.cell? ⟨a,0,none⟩=some (.int .i64 (topV runes))/\w'.cell? ⟨b,0,none⟩=some (.bool runes)/\Ext w w'
theorem outside_any (runes:Bool)(w:World):Calls Tryz.prog 151 #[.bool runes] w (RetOut runes w):=by
 have hb:=Blk.new w 4 #[.bool runes];have e1:=Ext.alloc w (.cells #[.bool runes] 4);have h1:=fun(t:Int)=>(hb.ext (Ext.alloc (w.alloc (.cells #[.bool runes] 4)) (.cells #[.int .i64 t] 3))).cell 0;have h2:=fun(t:Int)=>(Blk.new (w.alloc (.cells #[.bool runes] 4)) 3 #[.int .i64 t]).cell 0;simp only[World.size_alloc] at h2;replace h1:=lh h1;replace h2:=lh h2;clear hb e1;cases runes
 ·go_enter Tryz.func151,Tryz.ntmps151
  go_wp2
  go_ret
  exact⟨_,_,rfl,h2.out 255,h1.out 255,(Ext.alloc _ _).trans (Ext.alloc _ _)⟩
 ·go_enter Tryz.func151,Tryz.ntmps151
  go_wp2
  go_ret
  exact⟨_,_,rfl,h2.out 1114111,h1.out 1114111,(Ext.alloc _ _).trans (Ext.alloc _ _)⟩
theorem K12z5 {P:Prop} (h:P:=by
 go_enter Tryz.func193,Tryz.ntmps193
 go_wp2
 go_ret
 exact⟨rfl,Ext.rfl' _⟩):P:=h
theorem surr_any (x:Int)(w:World):Calls Tryz.prog 193 #[.int .i64 x] w (RetV (.bool (decide (55296<=x/\x<=57343))) w):=by
 by_cases h1:55296<=x
 ·by_cases h2:x<=57343
  ·rw[decide_eq_true ⟨h1,h2⟩];exact K12z5
  ·rw[decide_eq_false (fun h=>h2 h.2)];exact K12z5
 ·rw[decide_eq_false (fun h=>h1 h.1)];exact K12z5
theorem K12z2 {P:Prop} (h:P:=by
 go_enter Tryz.func192,Tryz.ntmps192
 go_wp2
 go_ret
 exact⟨rfl,Ext.rfl' _⟩):P:=h
theorem K12z4 {P:Prop} (h:P:=by
 clear h3;go_enter Tryz.func192,Tryz.ntmps192
 go_wp2_with fail
 refine(hs _).out.mono ?_;rintro e w1 ⟨rfl,x1⟩
 go_wp2_with fail
 go_ret
 exact⟨rfl,x1⟩):P:=h
theorem outC_any (x:Int)(runes:Bool)(a b:Nat)(w:World)(ha:w.cell? ⟨a,0,none⟩=some (.int .i64 (topV runes)))(hb:w.cell? ⟨b,0,none⟩=some (.bool runes)) :
 Calls Tryz.prog 192 #[.int .i64 x,.pointer (some ⟨a,0,none⟩),.pointer (some ⟨b,0,none⟩)] w (RetV (.bool (!symV runes x)) w):=by
 have hs:=fun(w':World)=>lh (surr_any x w');cases runes
 ·have ht:topV false=255:=rfl;rw[ht] at ha;clear ht hs;by_cases h1:x<0
  ·rw[show symV false x=false by simp[symV];omega];exact K12z2
  ·by_cases h2:255<x
   ·rw[show symV false x=false by simp[symV];omega];exact K12z2
   ·rw[show symV false x=true by simp[symV];omega];exact K12z2
 ·have ht:topV true=1114111:=rfl;rw[ht] at ha;clear ht;by_cases h1:x<0
  ·rw[show symV true x=false by simp[symV];omega];exact K12z2
  ·by_cases h2:1114111<x
   ·rw[show symV true x=false by simp[symV];omega];exact K12z2
   ·by_cases h3:55296<=x/\x<=57343
    ·rw[decide_eq_true h3] at hs;rw[show symV true x=false by simp[symV];omega];exact K12z4
    ·rw[decide_eq_false h3] at hs;rw[show symV true x=true by simp[symV];omega];exact K12z4
theorem allV_bad {runes:Bool}{l:List Int}{k:Nat}(hk:k<l.length)(h:symV runes l[k]=false):l.all (symV runes)=false:=by
 rw[List.all_eq_false];exact⟨l[k],List.getElem_mem hk,by simp[h]⟩
theorem allV_step {runes:Bool}{l:List Int}{k:Nat}(hk:k<l.length)(h0:(l.take k).all (symV runes)=true)(h:symV runes l[k]=true):(l.take (k+1)).all (symV runes)=true:=by
 rw[List.take_succ_eq_append_getElem hk,List.all_append,h0];simp[h]
theorem tindex_any (A:Option Addr)(c:Nat)(l:List Int)(runes:Bool)(a b:Nat)(w:World)(hl:IL w A c l)(ha:w.cell? ⟨a,0,none⟩=some (.int .i64 (topV runes)))(hb:w.cell? ⟨b,0,none⟩=some (.bool runes)) :
 Calls Tryz.prog 191 #[.slice A l.length c,.func (Fn.func 192) #[] #[.pointer (some ⟨a,0,none⟩),.pointer (some ⟨b,0,none⟩)]] w fun e w'=>∃k:Int,e=.returned (.int .i64 k)/\(decide (0<=k) = !l.all (symV runes))/\Ext w w':=by
 obtain⟨a1,a2⟩:=hl.len;go_enter Tryz.func191,Tryz.ntmps191
 go_wp2
 go_loopw [8] (fun i wr=>∃k:Nat,k<=l.length/\i=.int .i64 k/\Hid ((l.take k).all (symV runes)=true)/\Ext w wr) (fun i _=>l.length-(intOf i).toNat)
 case atStart=>exact⟨0,Nat.zero_le _,rfl,rfl,Ext.rfl' _⟩
 case round=>
  obtain⟨k,hk,rfl,ht,hext⟩:=hrel;by_cases hlt:k<l.length
  ·obtain⟨p1,o1,rfl,g1⟩:=hl.get hlt;replace g1:=hext.cell g1;have hlt2:(k:Int)<l.length:=om;have HC:=lh (outC_any l[k] runes a b wr (hext.cell ha) (hext.cell hb));by_cases hs:symV runes l[k]=true
   ·have hs2:=lh (allV_step hlt ht.out hs);rw[hs] at HC;generalize l[k]=y at *;clear hs ht
    go_wp2_with fail
    refine HC.out.mono ?_;rintro e w1 ⟨rfl,hx1⟩;have xf:=hext.trans hx1
    go_wp2
    go_roundw
    case rel=>exact⟨k+1,om,by go_num,hs2,xf⟩
    case measure=>simp[intOf];omega
   ·have hs1:symV runes l[k]=false:=by simpa using hs
    have hbad:=lh (allV_bad hlt hs1);rw[hs1] at HC;generalize l[k]=y at *;clear hs ht hs1
    go_wp2_with fail
    refine HC.out.mono ?_;rintro e w1 ⟨rfl,hx1⟩
    go_wp2
    go_ret
    exact⟨_,rfl,by rw[hbad.out];simp,hext.trans hx1⟩
  ·go_wp2
   go_ret
   have h1:=ht.out;rw[List.take_of_length_le om] at h1;exact⟨_,rfl,by rw[h1];simp,hext⟩
theorem tcontains_any (A:Option Addr)(c:Nat)(l:List Int)(runes:Bool)(a b:Nat)(w:World)(hl:IL w A c l)(ha:w.cell? ⟨a,0,none⟩=some (.int .i64 (topV runes)))(hb:w.cell? ⟨b,0,none⟩=some (.bool runes)) :
 Calls Tryz.prog 150 #[.slice A l.length c,.func (Fn.func 192) #[] #[.pointer (some ⟨a,0,none⟩),.pointer (some ⟨b,0,none⟩)]] w (RetV (.bool (!l.all (symV runes))) w):=by
 have HX:=lh (tindex_any A c l runes a b w hl ha hb);generalize l.all (symV runes)=al at *;cases al
 ·go_enter Tryz.func150,Tryz.ntmps150
  go_wp2_with fail
  refine HX.out.mono ?_;rintro e w2 ⟨k,rfl,hk,x2⟩;have hk0:decide (0<=k)=true:=hk;clear hk
  go_wp2_with fail
  go_ret
  exact⟨rfl,x2⟩
 ·go_enter Tryz.func150,Tryz.ntmps150
  go_wp2_with fail
  refine HX.out.mono ?_;rintro e w2 ⟨k,rfl,hk,x2⟩;have hk0:decide (0<=k)=false:=hk;clear hk
  go_wp2_with fail
  go_ret
  exact⟨rfl,x2⟩
def textE (runes:Bool)(l:List Int):Int:=if 65536<l.length then 4 else if l.all (symV runes)=true then 0 else 5
theorem K12z3 {P:Prop} (h:P:=by
 go_enter Tryz.func90,Tryz.ntmps90
 go_wp2_with fail
 refine HO.out.mono ?_;rintro e w1 ⟨a,b,rfl,h1,h2,x1⟩;have HX2:=HX a b w1 x1 h1 h2;clear HX
 go_wp2_with fail
 refine HX2.out.mono ?_;rintro e w2 ⟨rfl,x2⟩
 go_wp2_with fail
 go_ret
 exact⟨rfl,x1.trans x2⟩):P:=h
theorem tvalid_any (A:Option Addr)(c:Nat)(l:List Int)(runes:Bool)(w:World)(hl:IL w A c l):Calls Tryz.prog 90 #[.slice A l.length c,.bool runes] w (RetV (.int .i64 (textE runes l)) w):=by
 have hcap:=hl.len;by_cases hb:65536<l.length
 ·have hbI:(65536:Int)<l.length:=om;have e:textE runes l=4:=by unfold textE;rw[if_pos hb]
  rw[e];clear e;go_enter Tryz.func90,Tryz.ntmps90
  go_wp2
  go_ret
  exact⟨rfl,Ext.rfl' _⟩
 ·have hbI:¬(65536:Int)<l.length:=om;have HO:=lh (outside_any runes w);have e:textE runes l=if l.all (symV runes)=true then 0 else 5:=by unfold textE;rw[if_neg hb]
  rw[e];clear e hb;have HX:=fun(a b:Nat) (w':World) (x:Ext w w') h1 h2=>lh (tcontains_any A c l runes a b w' (hl.ext x) h1 h2);generalize l.all (symV runes)=al at *;cases al
  ·exact K12z3
  ·exact K12z3
end
end Go.Proofs.YtmpcoifnpflapaaGreat
