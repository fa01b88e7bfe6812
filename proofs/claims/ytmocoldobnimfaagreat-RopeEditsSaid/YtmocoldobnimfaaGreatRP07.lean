/- Texts of this proof: E2 E3 E14 Mp. -/
import Derived.Test.YtmocoldobnimfaaGreatRP04
import Derived.Maps.RangeRun
import Derived.ChangeMaps5
import Derived.WideLaws
import Derived.Carry
set_option linter.all false
set_option maxHeartbeats 1000000
namespace Go.Proofs.YtmocoldobnimfaaGreat
section
open Go.RowKit
def symOk (x:Int):Bool:=decide (0≤x)&&decide (x≤1114111)
def formedN (at_ del:Int)(n:Nat):Bool:=decide (0≤at_)&&decide (at_≤65536)&&decide (0≤del)&&decide (del≤65536)&&decide (n≤65536)
def formed (at_ del:Int)(ins:List Int):Bool:=formedN at_ del ins.length&&ins.all symOk
theorem formedN_f {a d:Int}{n:Nat}(h:formedN a d n=false):a<0∨65536<a∨d<0∨65536<d∨65536<n:=by
 simp only[formedN,Bool.and_eq_false_iff,decide_eq_false_iff_not] at h;omega
theorem all_take_succ (l:List Int)(k:Nat)(h:k<l.length)(h1:(l.take k).all symOk=true)(h2:symOk l[k]=true):(l.take (k+1)).all symOk=true:=by
 rw[List.take_succ_eq_append_getElem h,List.all_append,h1];simp[h2]
theorem all_bad (l:List Int)(k:Nat)(h:k<l.length)(h2:symOk l[k]=false):l.all symOk=false:=by
 rw[List.all_eq_false];exact⟨l[k],List.getElem_mem h,by simp[h2]⟩
theorem symOk_t {x:Int}(h:symOk x=true):0≤x∧x≤1114111:=by simpa[symOk] using h
theorem symOk_f {x:Int}(h:symOk x=false):x<0∨1114111<x:=by
 simp only[symOk,Bool.and_eq_false_iff,decide_eq_false_iff_not] at h;omega
end
section
open Go.RowKit
structure XL (w:World)(A:Option Addr)(c:Nat)(xs:List (Int×Int×Int)):Prop where
 le:xs.length≤c
 cap:c≤maxLen
 at_:xs≠[]→∃b o,A=some ⟨b,o,none⟩∧∀i (h:i<xs.length),w.cell? ⟨b,o+i*3,none⟩=some (.int .i64 xs[i].1)∧
  w.cell? ⟨b,o+i*3+1,none⟩=some (.int .i64 xs[i].2.1)∧w.cell? ⟨b,o+i*3+2,none⟩=some (.int .i64 xs[i].2.2)
end
section
open Go.RowKit
def editErr (n:Nat)(a d:Int)(ins:List Int):Int:=
 if 0≤a∧0≤d∧a≤n∧d≤n-a then(if ins.all symOk=true then(if 65536<(n:Int)-d+ins.length then 4 else 0) else 5) else 5
theorem E14z4 {P:Prop} (h:P:=by
 rw[e];go_enter Tryz.func148,Tryz.ntmps148
 go_wp2
 go_ret
 exact⟨rfl,Ext.rfl' _⟩):P:=h
theorem check1_any (x:Int)(w:World):Calls Tryz.prog 148 #[.int .i64 x] w (RetV (.bool (!symOk x)) w):=by
 by_cases h1:x<0
 ·have e:symOk x=false:=by simp[symOk];omega
  exact E14z4
 ·by_cases h2:1114111<x
  ·have e:symOk x=false:=by simp[symOk];omega
   exact E14z4
  ·have e:symOk x=true:=by simp[symOk];omega
   exact E14z4
theorem indexFunc_any (A:Option Addr)(c:Nat)(l:List Int)(w:World)(hl:IL w A c l) :
 Calls Tryz.prog 164 #[.slice A l.length c,.func (Fn.func 148) #[] #[]] w fun e w'=>∃k:Int,e=.returned (.int .i64 k)∧(decide (0≤k) = !l.all symOk)∧Ext w w':=by
 obtain⟨a1,a2⟩:=hl.len;go_enter Tryz.func164,Tryz.ntmps164
 go_wp2
 go_loopw [8] (fun i wr=>∃k:Nat,k≤l.length∧i=.int .i64 k∧Hid ((l.take k).all symOk=true)∧Ext w wr) (fun i _=>l.length-(intOf i).toNat)
 case atStart=>exact⟨0,Nat.zero_le _,rfl,rfl,Ext.rfl' _⟩
 case round=>
  obtain⟨k,hk,rfl,ht,hext⟩:=hrel;by_cases hlt:k<l.length
  ·obtain⟨p1,o1,rfl,g1⟩:=hl.get hlt;replace g1:=hext.cell g1;have hb:=World.block_lt_of_cell? _ _ g1;have hlt2:(k:Int)<l.length:=om
   cases hs:symOk l[k] with
   | false=>
    have H:=lh hs;have hbad:=all_bad l k hlt hs;clear hs
    go_wp2_with fail
    refine(check1_any _ _).mono ?_;rintro e w1 ⟨rfl,hx1⟩;rw[H.out]
    go_wp2
    go_ret
    exact⟨_,rfl,by rw[hbad];simp,hext.trans hx1⟩
   | true=>
    have hs2:=lh (all_take_succ l k hlt ht.out hs);have H:=lh hs;clear hs ht
    go_wp2_with fail
    refine(check1_any _ _).mono ?_;rintro e w1 ⟨rfl,hx1⟩;rw[H.out]
    go_wp2
    go_roundw
    case rel=>exact⟨k+1,om,by go_num,hs2,hext.trans hx1⟩
    case measure=>simp[intOf];omega
  ·go_wp2
   go_ret
   have h1:=ht.out;rw[List.take_of_length_le om] at h1;exact⟨_,rfl,by rw[h1];simp,hext⟩
theorem containsFunc_any (A:Option Addr)(c:Nat)(l:List Int)(w:World)(hl:IL w A c l) :
 Calls Tryz.prog 129 #[.slice A l.length c,.func (Fn.func 148) #[] #[]] w (RetV (.bool (!l.all symOk)) w):=by
 go_enter Tryz.func129,Tryz.ntmps129
 go_wp2_with fail
 refine(indexFunc_any _ _ _ _ hl).mono ?_;rintro e w1 ⟨k,rfl,hk,hx⟩
 rw[←hk]
 go_wp2
 go_ret
 exact⟨rfl,hx⟩
theorem E14z1 {P:Prop} (h:P:=by
 have e:editErr t a d l=5:=by unfold editErr;rw[if_neg om]
 rw[e];clear e;go_enter Tryz.func103,Tryz.ntmps103
 go_wp2
 go_ret
 exact⟨rfl,Ext.alloc _ _⟩):P:=h
theorem E14z3 {P:Prop} (h:P:=by
 rw[e];clear e;have H:=lh hs;clear hs;go_enter Tryz.func103,Tryz.ntmps103
 go_wp2_with fail
 refine(containsFunc_any _ _ _ _ (hl.ext hx)).mono ?_;rintro e w1 ⟨rfl,hx1⟩;rw[H.out];obtain⟨r0,r1,r2,_,_,_,_⟩:=(hb.ext hx1).c3
 go_wp2
 go_ret
 exact⟨rfl,hx.trans hx1⟩):P:=h
theorem tcheck_any (T:Option Addr)(t tc:Nat)(a d:Int)(A:Option Addr)(c:Nat)(l:List Int)(w:World)(hl:IL w A c l)(_ht:t≤9223372036854775807)(hlen:t+l.length≤9223372036854775807)(hd:I64 d) :
 Calls Tryz.prog 103 #[.slice T t tc,.agg #[.int .i64 a,.int .i64 d,.slice A l.length c]] w (RetV (.int .i64 (editErr t a d l)) w):=by
 obtain⟨d1,d2⟩:=hd;by_cases h1:a<0
 ·exact E14z1
 by_cases h2:d<0
 ·exact E14z1
 by_cases h3:(t:Int)<a
 ·exact E14z1
 by_cases h4:(t:Int)-a<d
 ·exact E14z1
 have hx:=Ext.alloc w (.cells #[.int .i64 a,.int .i64 d,.slice A l.length c] 102);have hb:=Blk.new w 102 #[.int .i64 a,.int .i64 d,.slice A l.length c]
 cases hs:l.all symOk with
 | false=>
  have e:editErr t a d l=5:=by unfold editErr;rw[if_pos om,hs];rfl
  rw[e];clear e;have H:=lh hs;clear hs;go_enter Tryz.func103,Tryz.ntmps103
  go_wp2_with fail
  refine(containsFunc_any _ _ _ _ (hl.ext hx)).mono ?_;rintro e w1 ⟨rfl,hx1⟩;rw[H.out]
  go_wp2
  go_ret
  exact⟨rfl,hx.trans hx1⟩
 | true=>
  by_cases h5:65536<(t:Int)-d+l.length
  ·have e:editErr t a d l=4:=by unfold editErr;rw[if_pos om,if_pos hs,if_pos h5]
   exact E14z3
  ·have e:editErr t a d l=0:=by unfold editErr;rw[if_pos om,if_pos hs,if_neg h5]
   exact E14z3
theorem E14z2 {P:Prop} (h:P:=by
 have e:editErr t a d l=5:=by unfold editErr;rw[if_neg om]
 rw[e];clear e;go_enter Tryz.func53,Tryz.ntmps53
 go_wp2
 go_ret
 exact⟨rfl,Ext.alloc _ _⟩):P:=h
theorem rCheck_any (T:Option Addr)(t tc:Nat)(a d:Int)(A:Option Addr)(c:Nat)(l:List Int)(w:World)(hl:IL w A c l)(_ht:t≤9223372036854775807)(hlen:t+l.length≤9223372036854775807)(hd:I64 d) :
 Calls Tryz.prog 53 #[.slice T t tc,.agg #[.int .i64 a,.int .i64 d,.slice A l.length c]] w (RetV (.int .i64 (editErr t a d l)) w):=by
 obtain⟨d1,d2⟩:=hd;by_cases h1:a<0
 ·exact E14z2
 by_cases h2:d<0
 ·exact E14z2
 by_cases h3:(t:Int)<a
 ·exact E14z2
 by_cases h4:(t:Int)-a<d
 ·exact E14z2
 have hx:=Ext.alloc w (.cells #[.int .i64 a,.int .i64 d,.slice A l.length c] 102);obtain⟨a1,a2⟩:=hl.len;go_enter Tryz.func53,Tryz.ntmps53
 go_wp2
 go_loopw [5] (fun i wr=>∃k:Nat,k≤l.length∧i=.int .i64 k∧Hid ((l.take k).all symOk=true)∧wr=w.alloc (.cells #[.int .i64 a,.int .i64 d,.slice A l.length c] 102)) (fun i _=>l.length-(intOf i).toNat)
 case atStart=>exact⟨0,Nat.zero_le _,rfl,rfl,rfl⟩
 case round=>
  obtain⟨k,hk,rfl,ht',rfl⟩:=hrel;by_cases hlt:k<l.length
  ·obtain⟨p1,o1,rfl,g1⟩:=hl.get hlt;have hb:=World.block_lt_of_cell? _ _ g1;have hlt2:(k:Int)<l.length:=om
   cases hs:symOk l[k] with
   | false=>
    have hbad:=all_bad l k hlt hs;have e:editErr t a d l=5:=by unfold editErr;rw[if_pos om,hbad];rfl
    have hs2:=symOk_f hs;have E:=lh e;clear e hs hbad;generalize l[k]=x at *;by_cases hx0:x<0
    ·go_wp2
     go_ret
     exact⟨by rw[E.out];rfl,hx⟩
    ·have hx1:1114111<x:=om
     go_wp2
     go_ret
     exact⟨by rw[E.out];rfl,hx⟩
   | true=>
    have hs2:=lh (all_take_succ l k hlt ht'.out hs);obtain⟨g2,g3⟩:=symOk_t hs;clear hs ht'
    go_wp2
    go_roundw
    case rel=>exact⟨k+1,om,by go_num,hs2,trivial⟩
    case measure=>simp[intOf];omega
  ·have hall:=ht'.out;rw[List.take_of_length_le om] at hall;by_cases h5:65536<(t:Int)-d+l.length
   ·have e:editErr t a d l=4:=by unfold editErr;rw[if_pos om,if_pos hall,if_pos h5]
    have E:=lh e;clear e hall ht'
    go_wp2
    go_ret
    exact⟨by rw[E.out];rfl,hx⟩
   ·have e:editErr t a d l=0:=by unfold editErr;rw[if_pos om,if_pos hall,if_neg h5]
    have E:=lh e;clear e hall ht'
    go_wp2
    go_ret
    exact⟨by rw[E.out];rfl,hx⟩
end
section
open Go.RowKit
open Go.ChangeMaps (setBlock)
structure KLaw {α:Type}[DecidableEq α](P:Program)(k:TypeId)(kv:α→Value):Prop where
 check:∀(e:Bool) (x:α) (w:World),(Instr.checkKey e 10000 k (kv x)).run P w=.ok () w
 find:∀(x:α) (es:List MapEntry) (ks:List α),es.map (·.key)=ks.map kv→∀w:World,(Instr.findKey k (kv x) es).run P w=.ok ((ks.findIdx? (· == x)).map fun i=>(i,((es[i]?).map (·.val)).getD undef)) w
 same:∀x:α,Instr.sameBits 10000 (kv x) (kv x)=true
theorem findNow_int {kd:IntKind}{k:IntKind}(x:Int):∀(es:List MapEntry) (ks:List Int) (j:Nat),es.map (·.key)=ks.map (Value.int kd)→
 Instr.findNow (.int k) (.int kd x) es j=some ((ks.findIdx? (· == x)).map fun i=>(j+i,((es[i]?).map (·.val)).getD undef))
 | [],[],_,_=>by simp[Instr.findNow]
 | [],_::_,_,h=>by simp at h
 | _::_,[],_,h=>by simp at h
 | e::es,y::ks,j,h=>by
  simp only[List.map_cons,List.cons.injEq] at h;simp only[Instr.findNow,h.1,Instr.sameNow,if_true];have ih:=findNow_int (k:=k) x es ks (j+1) h.2;by_cases hxy:x=y
  ·subst hxy;simp[List.findIdx?_cons]
  ·have e1:(x == y)=false:=by simp[hxy]
   have e2:(y == x)=false:=by simp;exact fun e=>hxy e.symm
   rw[e1];simp only[ih,List.findIdx?_cons,e2,Bool.false_eq_true,if_false,Option.map_map]
   congr 2
   funext i
   simp only[Function.comp,List.getElem?_cons_succ]
   congr 1;omega
theorem findAsking_of {P:Program}{k:TypeId}{α:Type}[DecidableEq α]{kv:α→Value}(heq:∀x y (w:World),(Op.equal k (kv x) (kv y)).run P w=.ok (decide (x=y)) w)(x:α)(w:World) :
 ∀(es:List MapEntry) (ks:List α) (j:Nat),es.map (·.key)=ks.map kv→
 (Instr.findAsking k (kv x) es j).run P w=.ok ((ks.findIdx? (· == x)).map fun i=>(j+i,((es[i]?).map (·.val)).getD undef)) w
 | [],[],_,_=>by simp[Instr.findAsking]
 | [],_::_,_,h=>by simp at h
 | _::_,[],_,h=>by simp at h
 | e::es,y::ks,j,h=>by
  simp only[List.map_cons,List.cons.injEq] at h;have ih:=findAsking_of heq x w es ks (j+1) h.2;unfold Instr.findAsking;simp only[Sem.run_bind,h.1,heq,Result.andThen_ok];by_cases hxy:x=y
  ·subst hxy;simp[List.findIdx?_cons]
  ·have e2:(y == x)=false:=by simp;exact fun e=>hxy e.symm
   simp only[hxy,decide_false,Bool.false_eq_true,if_false,ih,List.findIdx?_cons,e2,Option.map_map]
   congr 2
   funext i
   simp only[Function.comp,List.getElem?_cons_succ]
   congr 1;omega
theorem asking_klaw {P:Program}{k:TypeId}{α:Type}[DecidableEq α]{kv:α→Value}{d:TypeDesc}(hk:P.underlying k=some d)(hno:∀x y:α,Instr.sameNow d (kv x) (kv y)=none)
 (heq:∀x y (w:World),(Op.equal k (kv x) (kv y)).run P w=.ok (decide (x=y)) w) (hck:∀(e:Bool) (x:α) (w:World),(Instr.checkKey e 10000 k (kv x)).run P w=.ok () w)
 (hsame:∀x:α,Instr.sameBits 10000 (kv x) (kv x)=true):KLaw P k kv where
 check:=hck
 same:=hsame
 find:=fun x es ks h w=>by
  unfold Instr.findKey;simp only[Sem.run_bind,run_underlying hk,Result.andThen_ok]
  match es,ks,h with
  | [],[],_=>simp[Instr.findNow]
  | e::es,y::ks,h=>
   have h':=h;simp only[List.map_cons,List.cons.injEq] at h';have e1:Instr.findNow d (kv x) (e::es) 0=none:=by simp[Instr.findNow,h'.1,hno]
   rw[e1];have:=findAsking_of heq x w (e::es) (y::ks) 0 h
   simpa using this
section
variable {α β:Type}
def MapAt (w:World)(b:Nat)(kv:α→Value)(vv:β→Value)(l:List (α×β)):Prop:=
 ∃(es:Array MapEntry) (clock:Nat),w.heap[b]? = some (.map es clock)∧es.toList.map (fun e=>(e.key,e.val))=l.map (fun p=>(kv p.1,vv p.2))∧(l.map (·.1)).Nodup∧
  (es.toList.map (·.born)).Nodup∧∀e∈es.toList,e.born<clock
variable {P:Program} {w w':World} {b k e t:Nat} {kv:α→Value} {vv:β→Value} {l:List (α×β)}
theorem MapAt.made (w:World)(kv:α→Value)(vv:β→Value):MapAt (w.alloc (.map #[] 0)) w.heap.size kv vv []:=
 ⟨#[],0,by show(w.heap.push _)[w.heap.size]? = _;simp,by simp,by simp,by simp,by simp⟩
theorem MapAt.lt (h:MapAt w b kv vv l):b<w.heap.size:=by
 obtain⟨es,clock,h,_⟩:=h;exact(Array.getElem?_eq_some_iff.1 h).1
theorem MapAt.ext (h:MapAt w b kv vv l)(x:Ext w w'):MapAt w' b kv vv l:=by
 have hl:=h.lt;obtain⟨es,clock,h,r⟩:=h;exact⟨es,clock,(x.block b hl).trans h,r⟩
theorem MapAt.kp {p:Nat→Prop}(h:MapAt w b kv vv l)(x:KpP p w w')(hn:¬p b):MapAt w' b kv vv l:=by
 have hl:=h.lt;obtain⟨es,clock,h,r⟩:=h;exact⟨es,clock,(x.block b hl hn).trans h,r⟩
theorem MapAt.ne (h:MapAt w b kv vv l){g T:Nat}{cs:Array Value}(hb:Blk w g T cs):b≠g:=by
 rintro rfl;obtain⟨es,clock,h,_⟩:=h;unfold Blk at hb;rw[hb] at h;cases h
def at? [DecidableEq α](l:List (α×β))(x:α):Option β:=(l.find? (fun p=>p.1 == x)).map (·.2)
def putL [DecidableEq α](l:List (α×β))(x:α)(v:β):List (α×β):=if l.any (fun p=>p.1 == x) then l.map (fun p=>if p.1=x then(x,v) else p) else l++[(x,v)]
def delL [DecidableEq α](l:List (α×β))(x:α):List (α×β):=l.filter (fun p=>!(p.1 == x))
theorem keys_of {es:List MapEntry}(h:es.map (fun e=>(e.key,e.val))=l.map (fun p=>(kv p.1,vv p.2))):es.map (·.key)=(l.map (·.1)).map kv:=by
 have:=congrArg (List.map Prod.fst) h
 simpa[List.map_map,Function.comp_def] using this
theorem find_idx [DecidableEq α](x:α):∀l:List (α×β),(l.map (·.1)).findIdx? (· == x)=l.findIdx? (fun p=>p.1 == x)
 | []=>rfl
 | p::l=>by simp only[List.map_cons,List.findIdx?_cons,find_idx x l]
theorem val_at {es:List MapEntry}(h:es.map (fun e=>(e.key,e.val))=l.map (fun p=>(kv p.1,vv p.2)))(i:Nat):((es[i]?).map (·.val))=(l[i]?).map (fun p=>vv p.2):=by
 have:=congrArg (fun z=>(z[i]?).map Prod.snd) h
 simpa[List.getElem?_map,Option.map_map,Function.comp_def] using this
theorem find_get [DecidableEq α](x:α):∀l:List (α×β),(l.findIdx? (fun p=>p.1 == x)).bind (fun i=>l[i]?)=l.find? (fun p=>p.1 == x)
 | []=>rfl
 | p::l=>by
  have ih:=find_get x l;simp only[List.findIdx?_cons,List.find?_cons]
  cases hb:p.1 == x with
  | true=>simp
  | false=>
   simp only[Bool.false_eq_true,if_false]
   rw[←ih]
   cases List.findIdx? (fun p=>p.1 == x) l<;>simp
theorem MapAt.look [DecidableEq α](h:MapAt w b kv vv l)(K:KLaw P k kv)(ht:P.underlying t=some (.map k e)){z:Value}(hz:(zeroValue e).run P w=.ok z w)(x:α) :
 (Instr.lookup t (.map (some b)) (kv x) false).run P w=.ok (((at? l x).map vv).getD z) w∧
 (Instr.lookup t (.map (some b)) (kv x) true).run P w=.ok (.tuple #[((at? l x).map vv).getD z,.bool (at? l x).isSome]) w:=by
 obtain⟨es,clock,hb,hes,_⟩:=h;have hf:=K.find x es.toList (l.map (·.1)) (keys_of hes) w;rw[find_idx] at hf;have hat:at? l x=((l.findIdx? (fun p=>p.1 == x)).bind (fun i=>l[i]?)).map (·.2):=by rw[find_get];rfl
 constructor
 all_goals
  simp only[Instr.lookup,Sem.run_bind,run_underlying ht,Result.andThen_ok,MapKept.run_getObj_map hb,Sem.run_pure,K.check,hf]
  cases hi:l.findIdx? (fun p=>p.1 == x) with
  | none=>rw[hi] at hat;simp[hat,hz]
  | some i=>
   rw[hi] at hat;have hi2:=List.findIdx?_eq_some_iff_getElem.1 hi;obtain⟨hlt,_⟩:=hi2;have hv:=val_at hes i;simp only[Option.bind_some,List.getElem?_eq_getElem hlt,Option.map_some] at hat hv;simp only[Option.map_some];rw[hv];simp[hat]
theorem MapAt.len (h:MapAt w b kv vv l):∃es clock,w.heap[b]? = some (.map es clock)∧es.size=l.length:=by
 obtain⟨es,clock,hb,hes,_⟩:=h;refine⟨es,clock,hb,?_⟩;have:=congrArg List.length hes
 simpa using this
theorem heap_setBlock (w:World)(b:Nat)(o:Obj)(hb:b<w.heap.size):(setBlock w b o).heap[b]? = some o:=by
 simp[setBlock,hb]
theorem kp_setBlock (w:World)(b:Nat)(o:Obj):KpP (·=b) w (setBlock w b o):=
 ⟨rfl,rfl,rfl,by simp[setBlock],fun k _ hn=>by simp only[setBlock];rw[Array.getElem?_setIfInBounds_ne (fun e=>hn e.symm)]⟩
theorem pairs_born {es:Array MapEntry}{l:List (α×β)}(h:es.toList.map (fun e=>(e.key,e.val))=l.map (fun p=>(kv p.1,vv p.2))):es.size=l.length:=by
 have:=congrArg List.length h
 simpa using this
theorem any_find [DecidableEq α](x:α)(l:List (α×β)):l.any (fun p=>p.1 == x)=(l.findIdx? (fun p=>p.1 == x)).isSome:=by
 induction l with
 | nil=>rfl
 | cons p l ih=>simp only[List.any_cons,List.findIdx?_cons,ih];cases p.1 == x<;>simp
theorem modify_map [DecidableEq α](x:α)(v:β):∀(l:List (α×β)),(l.map (·.1)).Nodup→∀i,l.findIdx? (fun p=>p.1 == x)=some i→l.modify i (fun _=>(x,v))=l.map (fun p=>if p.1=x then(x,v) else p)
 | [],_,i,h=>by simp at h
 | p::l,hn,i,h=>by
  simp only[List.map_cons,List.nodup_cons] at hn;rw[List.findIdx?_cons] at h;by_cases hp:p.1=x
  ·have hb:(p.1 == x)=true:=by simpa using hp
   rw[hb] at h;simp only[if_true,Option.some.injEq] at h;subst h;simp only[List.modify_zero_cons,List.map_cons,hp,if_true,List.cons.injEq,true_and]
   symm
   rw[List.map_congr_left (g:=id),List.map_id];intro q hq;have:q.1≠x:=fun e=>hn.1 (by rw[hp,←e];exact List.mem_map.2 ⟨q,hq,rfl⟩);simp[this]
  ·have hb:(p.1 == x)=false:=by simpa using hp
   rw[hb] at h;simp only[Bool.false_eq_true,if_false] at h
   cases hj:l.findIdx? (fun p=>p.1 == x) with
   | none=>rw[hj] at h;simp at h
   | some j=>
    rw[hj] at h;simp only[Option.map_some,Option.some.injEq] at h;subst h;simp only[List.modify_succ_cons,List.map_cons,hp,if_false,modify_map x v l hn.2 j hj]
theorem map_modify_entry (es:List MapEntry)(f:MapEntry→MapEntry)(g:Value×Value→Value×Value)(hfg:∀e,((f e).key,(f e).val)=g (e.key,e.val))(i:Nat) :
 (es.modify i f).map (fun e=>(e.key,e.val))=(es.map (fun e=>(e.key,e.val))).modify i g:=by
 induction es generalizing i with
 | nil=>cases i<;>rfl
 | cons e es ih=>
  cases i with
  | zero=>simp[hfg]
  | succ i=>simp[ih]
theorem MapAt.put [DecidableEq α](h:MapAt w b kv vv l)(K:KLaw P k kv)(ht:P.underlying t=some (.map k e))(x:α)(v:β) :
 ∃o,(Instr.mapUpdate t (.map (some b)) (kv x) (vv v)).run P w=.ok () (setBlock w b o)∧MapAt (setBlock w b o) b kv vv (putL l x v):=by
 have hlt:=h.lt;obtain⟨es,clock,hb,hes,hnd,hbn,hbl⟩:=h;have hf:=K.find x es.toList (l.map (·.1)) (keys_of hes) w;rw[find_idx] at hf
 cases hi:l.findIdx? (fun p=>p.1 == x) with
 | none=>
  rw[hi] at hf;refine⟨.map (es.push { key:=kv x,val:=vv v,born:=clock }) (clock+1),?_,?_⟩
  ·simp only[Instr.mapUpdate,Sem.run_bind,run_underlying ht,Result.andThen_ok,MapKept.run_getObj_map hb,K.check,hf,Option.map_none];exact MapKept.run_setObj_map _ hb
  ·have hput:putL l x v=l++[(x,v)]:=by unfold putL;rw[any_find,hi];rfl
   rw[hput];refine⟨_,_,heap_setBlock w b _ hlt,?_,?_,?_,?_⟩
   ·simp[hes]
   ·rw[List.map_append,List.nodup_append];refine⟨hnd,by simp,?_⟩;intro y hy z hz hyz;have hz2:z=x:=by simpa using hz
    subst hz2;obtain⟨p,hp,rfl⟩:=List.mem_map.1 hy;have:=List.findIdx?_eq_none_iff.1 hi p hp;simp[hyz] at this
   ·simp only[Array.toList_push,List.map_append,List.nodup_append];refine⟨hbn,by simp,?_⟩;intro y hy z hz hyz;obtain⟨p,hp,rfl⟩:=List.mem_map.1 hy;have:=hbl p hp;have hz2:z=clock:=by simpa using hz
    omega
   ·intro e he;simp only[Array.toList_push,List.mem_append,List.mem_singleton] at he;rcases he with he|rfl
    ·have:=hbl e he;omega
    ·simp
 | some i=>
  rw[hi] at hf;obtain⟨hil,hix,_⟩:=List.findIdx?_eq_some_iff_getElem.1 hi;have hie:i<es.size:=by rw[pairs_born hes];exact hil
  have hkey:es[i].key=kv x:=by
   have h1:=keys_of hes;have h2:=congrArg (fun z=>z[i]?) h1;simp only[List.getElem?_map,List.getElem?_eq_getElem hil,Option.map_some] at h2;have h3:l[i].1=x:=by simpa using hix
   rw[h3] at h2;have h4:es.toList[i]? = some es[i]:=by simp[hie]
   rw[h4] at h2
   simpa using h2
  refine⟨.map (es.modify i fun e=>{ e with key:=kv x,val:=vv v }) clock,?_,?_⟩
  ·have h4:es[i]? = some es[i]:=by simp[hie]
   simp only[Instr.mapUpdate,Sem.run_bind,run_underlying ht,Result.andThen_ok,MapKept.run_getObj_map hb,K.check,hf,Option.map_some,h4,Option.getD_some,Instr.keyThatStays,hkey,K.same,if_true,Sem.run_pure];exact MapKept.run_setObj_map _ hb
  ·have hput:putL l x v=l.modify i (fun _=>(x,v)):=by unfold putL;rw[any_find,hi,modify_map x v l hnd i hi];rfl
   have hkeys:(l.modify i (fun _=>(x,v))).map (·.1)=l.map (·.1):=by
    apply List.ext_getElem?;intro j;rw[List.getElem?_map,List.getElem?_map,List.getElem?_modify];by_cases hij:i=j
    ·subst hij;rw[List.getElem?_eq_getElem hil];have h3:l[i].1=x:=by simpa using hix
     simp[h3]
    ·simp[hij]
   have hborn:(es.modify i fun e=>{ e with key:=kv x,val:=vv v }).toList.map (·.born)=es.toList.map (·.born):=by
    rw[Array.toList_modify];apply List.ext_getElem?;intro j;rw[List.getElem?_map,List.getElem?_map,List.getElem?_modify];by_cases hij:i=j
    ·subst hij;cases es.toList[i]?<;>simp
    ·simp[hij]
   rw[hput];refine⟨_,_,heap_setBlock w b _ hlt,?_,by rw[hkeys];exact hnd,by rw[hborn];exact hbn,?_⟩
   ·rw[Array.toList_modify,map_modify_entry _ _ (fun _=>(kv x,vv v)) (fun _=>rfl),hes];apply List.ext_getElem?;intro j;rw[List.getElem?_modify,List.getElem?_map,List.getElem?_map,List.getElem?_modify];by_cases hij:i=j
    ·subst hij;cases l[i]?<;>simp
    ·simp[hij]
   ·intro e he;have:e.born∈es.toList.map (·.born):=by rw[←hborn];exact List.mem_map.2 ⟨e,he,rfl⟩
    obtain⟨e',he',h5⟩:=List.mem_map.1 this
    rw[←h5];exact hbl e' he'
theorem map_erase {γ δ:Type}(f:γ→δ):∀(L:List γ) (i:Nat),(L.eraseIdx i).map f=(L.map f).eraseIdx i
 | [],i=>by cases i<;>rfl
 | x::L,0=>rfl
 | x::L,i+1=>by simp[map_erase f L i]
theorem filter_erase {γ δ:Type}[DecidableEq δ](f:γ→δ):∀(L:List γ),(L.map f).Nodup→∀(i:Nat) (hi:i<L.length),L.filter (fun x=>!(f x == f L[i]))=L.eraseIdx i
 | [],_,i,hi=>by simp at hi
 | x::L,hn,0,_=>by
  simp only[List.map_cons,List.nodup_cons] at hn;simp only[List.getElem_cons_zero,List.filter_cons,beq_self_eq_true,Bool.not_true,Bool.false_eq_true,if_false,List.eraseIdx_cons_zero];rw[List.filter_eq_self];intro y hy;have:f y≠f x:=fun e=>hn.1 (by rw[←e];exact List.mem_map.2 ⟨y,hy,rfl⟩);simp[this]
 | x::L,hn,i+1,hi=>by
  simp only[List.map_cons,List.nodup_cons] at hn;have hi':i<L.length:=by simpa using hi
  have:f x≠f L[i]:=fun e=>hn.1 (by rw[e];exact List.mem_map.2 ⟨_,List.getElem_mem hi',rfl⟩);simp only[List.getElem_cons_succ,List.filter_cons,List.eraseIdx_cons_succ];rw[if_pos (by simp[this]),filter_erase f L hn.2 i hi']
theorem MapAt.del [DecidableEq α](h:MapAt w b kv vv l)(K:KLaw P k kv)(ht:P.underlying t=some (.map k e))(ty:TypeId)(x:α) :
 ∃o,(Builtin.delete_ #[t,k] ty #[.map (some b),kv x]).run P w=.ok (.tuple #[]) (setBlock w b o)∧MapAt (setBlock w b o) b kv vv (delL l x):=by
 have hlt:=h.lt;obtain⟨es,clock,hb,hes,hnd,hbn,hbl⟩:=h;have hf:=K.find x es.toList (l.map (·.1)) (keys_of hes) w;rw[find_idx] at hf
 cases hi:l.findIdx? (fun p=>p.1 == x) with
 | none=>
  rw[hi] at hf;refine⟨.map es clock,?_,?_⟩
  ·simp[Builtin.delete_,run_underlying ht,MapKept.run_getObj_map hb,K.check,hf,MapKept.run_setObj_map _ hb,Result.andThen,setBlock]
  ·have hdel:delL l x=l:=by
    unfold delL;rw[List.filter_eq_self];intro p hp;have:=List.findIdx?_eq_none_iff.1 hi p hp;simp[this]
   rw[hdel];exact⟨_,_,heap_setBlock w b _ hlt,hes,hnd,hbn,hbl⟩
 | some i=>
  rw[hi] at hf;obtain⟨hil,hix,_⟩:=List.findIdx?_eq_some_iff_getElem.1 hi;have h3:l[i].1=x:=by simpa using hix
  have hie:i<es.size:=by rw[pairs_born hes];exact hil
  refine⟨.map (es.eraseIdxIfInBounds i) clock,?_,?_⟩
  ·simp[Builtin.delete_,run_underlying ht,MapKept.run_getObj_map hb,K.check,hf,MapKept.run_setObj_map _ hb,Result.andThen,setBlock]
  ·have hdel:delL l x=l.eraseIdx i:=by
    unfold delL
    rw[←h3];exact filter_erase (·.1) l hnd i hil
   have htl:(es.eraseIdxIfInBounds i).toList=es.toList.eraseIdx i:=by
    unfold Array.eraseIdxIfInBounds;rw[dif_pos hie];simp
   rw[hdel];refine⟨_,_,heap_setBlock w b _ hlt,?_,?_,?_,?_⟩
   ·rw[htl,map_erase,map_erase,hes]
   ·rw[map_erase];exact List.Nodup.sublist (List.eraseIdx_sublist _ _) hnd
   ·rw[htl,map_erase];exact List.Nodup.sublist (List.eraseIdx_sublist _ _) hbn
   ·intro e he;rw[htl] at he;exact hbl e (List.mem_of_mem_eraseIdx he)
def RngAt (w:World)(r b:Nat)(kv:α→Value)(vv:β→Value)(l left:List (α×β)):Prop:=
 ∃(es:Array MapEntry) (clock since:Nat) (seen:Array Nat),w.heap[r]? = some (.mapIter (some b) since seen clock)∧w.heap[b]? = some (.map es clock)∧
  es.toList.map (fun e=>(e.key,e.val))=l.map (fun p=>(kv p.1,vv p.2))∧(l.map (·.1)).Nodup∧(es.toList.map (·.born)).Nodup∧(∀e∈es.toList,e.born<since)∧since≤clock∧
  (leftOf es seen).toList.map (fun e=>(e.key,e.val))=left.map (fun p=>(kv p.1,vv p.2))∧(left.map (·.1)).Nodup∧left.Sublist l
theorem RngAt.ext {r:Nat}{left:List (α×β)}(h:RngAt w r b kv vv l left)(x:Ext w w'):RngAt w' r b kv vv l left:=by
 obtain⟨es,clock,since,seen,h1,h2,rest⟩:=h;exact⟨es,clock,since,seen,(x.block r (Array.getElem?_eq_some_iff.1 h1).1).trans h1,(x.block b (Array.getElem?_eq_some_iff.1 h2).1).trans h2,rest⟩
theorem MapAt.range (h:MapAt w b kv vv l)(ht:P.underlying t=some (.map k e)) :
 ∃o,(Instr.range t (.map (some b))).run P w=.ok (.pointer (some ⟨w.heap.size,0,none⟩)) (w.alloc o)∧RngAt (w.alloc o) w.heap.size b kv vv l l:=by
 have hlt:=h.lt;obtain⟨es,clock,hb,hes,hnd,hbn,hbl⟩:=h;refine⟨_,run_range_map w t k e b es clock ht hb,es,clock,clock,#[],heap_alloc_new w _,(heap_alloc_old w _ hlt).trans hb,hes,hnd,hbn,hbl,Nat.le_refl _,?_,hnd,List.Sublist.refl _⟩;have:(leftOf es #[]).toList=es.toList:=by unfold leftOf;rw[Array.toList_filter,List.filter_eq_self];simp
 rw[this];exact hes
theorem leftOf_push (es:Array MapEntry)(seen:Array Nat)(n:Nat):(leftOf es (seen.push n)).toList=(leftOf es seen).toList.filter (fun e=>!(e.born == n)):=by
 unfold leftOf;simp only[Array.toList_filter,List.filter_filter];apply List.filter_congr;intro e _;simp only[Array.contains_push,Bool.not_or];rw[Bool.and_comm]
theorem RngAt.next [DecidableEq α]{r:Nat}{left:List (α×β)}(h:RngAt w r b kv vv l left)(ty:TypeId) :
 (left=[]∧(Instr.next (.pointer (some ⟨r,0,none⟩)) false ty).run P w=.ok (.tuple #[.bool false]) w)∨
 ∃p∈left,∃w',(Instr.next (.pointer (some ⟨r,0,none⟩)) false ty).run P w=.ok (.tuple #[.bool true,kv p.1,vv p.2]) w'∧KpP (·=r) w w'∧
  RngAt w' r b kv vv l (delL left p.1)∧∀w2,Ext w' w2→(Instr.entry (.pointer (some ⟨r,0,none⟩))).run P w2=.ok (.tuple #[kv p.1,vv p.2]) w2:=by
 obtain⟨es,clock,since,seen,h1,h2,hes,hnd,hbn,hbl,hsc,hlf,hlnd,hsub⟩:=h;have hrb:r≠b:=by rintro rfl;rw[h1] at h2;cases h2
 have hll:(leftOf es seen).size=left.length:=by
  have:=congrArg List.length hlf
  simpa using this
 rcases run_next_at (P:=P) w ty r b since clock seen es clock h1 h2 hbl hsc with⟨h0,hrun⟩|⟨en,hen,w1,hw1,hrun⟩
 ·exact .inl ⟨List.eq_nil_of_length_eq_zero (by rw[←hll];exact h0),hrun⟩
 ·right
  obtain⟨i,hi,hei⟩:=List.getElem_of_mem hen;have hil:i<left.length:=by rw[←hll];simpa using hi
  have hp:(en.key,en.val)=(kv left[i].1,vv left[i].2):=by
   have:=congrArg (fun z=>z[i]?) hlf;simp only[List.getElem?_map,List.getElem?_eq_getElem hi,List.getElem?_eq_getElem hil,Option.map_some,Option.some.injEq,hei] at this;exact this
  injection hp with hk hv
  have hlt:r<w.heap.size:=(Array.getElem?_eq_some_iff.1 h1).1;have hkp:KpP (·=r) w (setBlock w1 r (.mapIter (some b) since (seen.push en.born) clock)):=by
   rcases hw1 with rfl|rfl
   ·exact kp_setBlock _ _ _
   ·exact(KpP.of_ext (Ext.drew w)).trans (kp_setBlock _ _ _)
  have hr':(setBlock w1 r (.mapIter (some b) since (seen.push en.born) clock)).heap[r]? = some (.mapIter (some b) since (seen.push en.born) clock):=by
   refine heap_setBlock _ _ _ ?_;rcases hw1 with rfl|rfl<;>exact hlt
  have hb':(setBlock w1 r (.mapIter (some b) since (seen.push en.born) clock)).heap[b]? = some (.map es clock):=
   (hkp.block b (Array.getElem?_eq_some_iff.1 h2).1 (fun e=>hrb e.symm)).trans h2
  have hene:en∈es.toList:=by
   unfold leftOf at hen;simp only[Array.toList_filter,List.mem_filter] at hen;exact hen.1
  have hlborn:((leftOf es seen).toList.map (·.born)).Nodup:=by
   unfold leftOf;rw[Array.toList_filter];exact List.Nodup.sublist (List.Sublist.map _ List.filter_sublist) hbn
  refine⟨left[i],List.getElem_mem _,_,by rw[hrun,hk,hv],hkp,?_,?_⟩
  ·refine⟨es,clock,since,_,hr',hb',hes,hnd,hbn,hbl,hsc,?_,?_,?_⟩
   ·unfold delL;rw[leftOf_push,filter_erase (fun q:α×β=>q.1) left hlnd i hil,map_erase,←hlf,←map_erase]
    congr 1
    have:=filter_erase (fun e:MapEntry=>e.born) (leftOf es seen).toList hlborn i hi;rw[hei] at this;exact this
   ·exact List.Nodup.sublist (List.Sublist.map _ List.filter_sublist) hlnd
   ·exact List.Sublist.trans List.filter_sublist hsub
  ·intro w2 hw2;have q1:=(hw2.block r (Array.getElem?_eq_some_iff.1 hr').1).trans hr';have q2:=(hw2.block b (Array.getElem?_eq_some_iff.1 hb').1).trans hb';rw[run_entry_at w2 r b since seen es clock en q1 q2 hene hbn,hk,hv]
end
end
end Go.Proofs.YtmocoldobnimfaaGreat
