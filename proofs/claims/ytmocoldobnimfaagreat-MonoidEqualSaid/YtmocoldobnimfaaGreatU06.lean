/- Texts of this proof: P2 Fk Mp. -/
import Derived.Test.YtmocoldobnimfaaGreatU04
import Derived.Test.YtmocoldobnimfaaGreatU05
import Derived.Maps.RangeRun
import Derived.ChangeMaps5
import Derived.WideLaws
import Derived.Carry
set_option linter.all false
namespace Go.Proofs.YtmocoldobnimfaaGreat
def endsL (c:List Sp):List Int:=c.flatMap (fun s=>[s.1,s.2])
theorem endsL_has {c:List Sp}(h:∀s∈c,s.1≤s.2){x:Int}(hx:x∈endsL c):has c x=true:=by
 unfold endsL at hx;obtain⟨s,hs,hx⟩:=List.mem_flatMap.1 hx;have:=h s hs;rw[has_iff];simp only[List.mem_cons,List.not_mem_nil,or_false] at hx;rcases hx with rfl|rfl
 ·exact⟨s,hs,Int.le_refl _,this⟩
 ·exact⟨s,hs,this,Int.le_refl _⟩
def symV (runes:Bool)(x:Int):Bool:=if runes=true then decide (0≤x∧x<55296) || decide (57343<x∧x≤1114111) else decide (0≤x∧x≤255)
def topV (runes:Bool):Int:=if runes=true then 1114111 else 255
theorem endsL_any {runes:Bool}{c:List Sp}(hc:∀s∈c,0≤s.1∧s.2≤topV runes){x:Int}(hx:has c x=true)(hv:symV runes x=true):∃y∈endsL c,symV runes y=true:=by
 obtain⟨s,hs,h1,h2⟩:=has_iff.1 hx;have hb:=hc s hs;have m1:s.1∈endsL c:=List.mem_flatMap.2 ⟨s,hs,by simp⟩;have m2:s.2∈endsL c:=List.mem_flatMap.2 ⟨s,hs,by simp⟩;unfold symV topV at *;cases runes
 ·simp only[Bool.false_eq_true,if_false,decide_eq_true_eq] at *;exact⟨s.1,m1,om⟩
 ·simp only[if_true,Bool.or_eq_true,decide_eq_true_eq] at *;by_cases h3:s.1<55296
  ·exact⟨s.1,m1,om⟩
  ·exact⟨s.2,m2,om⟩
def keepC (runes:Bool)(cs:List (List Sp)):List (List Sp):=cs.filter (fun c=>(endsL c).any (symV runes))
def smpP (runes:Bool)(c:List Sp):Int:=((endsL c).find? (symV runes)).getD 0
def smpR (runes:Bool)(c:List Sp):Int:=((endsL c).reverse.find? (symV runes)).getD 0
theorem smpP_in {runes:Bool}{c:List Sp}(h:(endsL c).any (symV runes)=true):smpP runes c∈endsL c∧symV runes (smpP runes c)=true:=by
 unfold smpP
 cases hf:(endsL c).find? (symV runes) with
 | none=>
  obtain⟨y,hy,hv⟩:=List.any_eq_true.1 h;have:=List.find?_eq_none.1 hf y hy;rw[hv] at this;simp at this
 | some y=>exact⟨List.mem_of_find?_eq_some hf,List.find?_some hf⟩
theorem smpR_in {runes:Bool}{c:List Sp}(h:(endsL c).any (symV runes)=true):smpR runes c∈endsL c∧symV runes (smpR runes c)=true:=by
 unfold smpR
 cases hf:(endsL c).reverse.find? (symV runes) with
 | none=>
  obtain⟨y,hy,hv⟩:=List.any_eq_true.1 h;have:=List.find?_eq_none.1 hf y (List.mem_reverse.2 hy);rw[hv] at this;simp at this
 | some y=>exact⟨List.mem_reverse.1 (List.mem_of_find?_eq_some hf),List.find?_some hf⟩
def strs (kept:List (List Sp)):List (Int×Nat):=kept.zipIdx.flatMap (fun p=>p.1.map (fun s=>(s.1,p.2)))
theorem strs_mem {kept:List (List Sp)}{p:Int×Nat}:p∈strs kept↔∃hk:p.2<kept.length,∃s∈kept[p.2],p.1=s.1:=by
 unfold strs;rw[List.mem_flatMap];constructor
 ·rintro⟨q,hq,hp⟩;obtain⟨s,hs,rfl⟩:=List.mem_map.1 hp;obtain⟨h1,h2,h3⟩:=List.mem_zipIdx hq;simp only[Nat.sub_zero] at h3;refine⟨om,s,?_,rfl⟩
  rw[←h3];exact hs
 ·rintro⟨hk,s,hs,h1⟩;refine⟨(kept[p.2],p.2),?_,?_⟩
  ·rw[List.mem_zipIdx_iff_getElem?];simp[hk]
  ·exact List.mem_map.2 ⟨s,hs,by rw[←h1]⟩
theorem stretch_law {kept:List (List Sp)}(hle:∀c∈kept,∀s∈c,s.1≤s.2)
 (hdis:∀x k k' (hk:k<kept.length) (hk':k'<kept.length),has kept[k] x=true→has kept[k'] x=true→k=k')
 {st:List (Int×Nat)} (hp:(strs kept).Perm st) (hs:st.Pairwise (fun a b=>a.1≤b.1)) {x:Int} {k:Nat} (hk:k<kept.length) (hx:has kept[k] x=true)
 {i:Nat} (hi:i≤st.length) (h1:∀j (hj:j<st.length),j<i→st[j].1≤x) (h2:∀(hj:i<st.length),x<st[i].1):∃h0:i-1<st.length,0<i∧st[i-1].2=k:=by
 obtain⟨s,hsm,h3,h4⟩:=has_iff.1 hx;have hm:(s.1,k)∈st:=hp.mem_iff.1 (strs_mem.2 ⟨hk,s,hsm,rfl⟩);obtain⟨j',hj',he⟩:=List.mem_iff_getElem.1 hm;have hsrt:=List.pairwise_iff_getElem.1 hs;have hj'i:j'<i:=by
  rcases Nat.lt_or_ge j' i with h|h
  ·exact h
  ·have hi2:i<st.length:=om;have h5:=h2 hi2;rcases Nat.lt_or_ge i j' with h6|h6
   ·have:=hsrt i j' hi2 hj' h6;rw[he] at this;simp only at this;omega
   ·have:i=j':=om;subst this;rw[he] at h5;simp only at h5;omega
 have h0:i-1<st.length:=om;refine⟨h0,om,?_⟩;have h5:=h1 (i-1) h0 om;have h6:s.1≤st[i-1].1:=by
  rcases Nat.lt_or_ge j' (i-1) with h|h
  ·have:=hsrt j' (i-1) hj' h0 h;rw[he] at this;exact this
  ·have:j'=i-1:=om;subst this;rw[he];exact Int.le_refl _
 obtain⟨hk2,s2,hs2,h7⟩:=strs_mem.1 (hp.mem_iff.2 (List.getElem_mem h0));have h8:=hle _ (List.getElem_mem hk2) s2 hs2;exact hdis st[i-1].1 _ _ hk2 hk (has_iff.2 ⟨s2,hs2,om,om⟩) (has_iff.2 ⟨s,hsm,h6,om⟩)
section
open Go.RowKit
theorem Kp.grownL {L:List Nat}{a b c:World}{A:Option Addr}(h:Kp L a b)(k:b.grownBy c (A.map (·.block)))(hp:∀i,A.map (·.block)=some i→i∈L∨a.heap.size≤i):Kp L a c:=
 ⟨k.os.trans h.os,k.tape.trans h.tape,k.output.trans h.output,Nat.le_trans h.size k.size,fun i hi hn=>(k.block i (Nat.lt_of_lt_of_le hi h.size) (fun e=>by
  rcases hp i e.symm with h1|h1
  ·exact hn h1
  ·omega)).trans (h.block i hi hn)⟩
theorem WI_grown {L:List Nat}{I:List (Nat×Nat)}{w w':World}{A:Option Addr}(k:w.grownBy w' (A.map (·.block)))(hp:∀i,A.map (·.block)=some i→i∈L∨InI I i):WI L I w w':=
 ⟨k.os,k.tape,k.output,k.size,fun i hi hn=>k.block i hi (fun e=>hn (hp i e.symm))⟩
section
variable {P:Program} {ops:Array Oper} {Q:Exit→Act→World→Prop} {L:List Nat} {w0:World}
variable {n:Nat} {KD:List (Nat×Nat)} {Z:List Lz} {I:List (Nat×Nat)} {ls:List Nat} {a:Act} {w:World}
theorem Xr.fork2 (i j:Nat){oi oj:Oper}(hoi:ops[i]? = some oi)(hoj:ops[j]? = some oj)
 (hr:(Region.ready .any ops (bits ops.size ls) == [i,j]&&KD.all fun x=>x.1 != i&&x.1 != j)=true) (hwi:Region.wanted oi (yielded ops a.tmps)=true) (hwj:Region.wanted oj (yielded ops a.tmps)=true)
 (h1:∀w',Ext w w'→Kp L w0 w'→∀K,(∀a2 w2,WI L I w' w2→Kp L w0 w2→Xr L w0 P ops Q n KD Z ((w'.heap.size,w2.heap.size)::I) (i::ls) a2 w2→K a2 w2)→oi.wp P a w' K (NoPanic Q))
 (h2:∀w',Ext w w'→Kp L w0 w'→∀K,(∀a2 w2,WI L I w' w2→Kp L w0 w2→Xr L w0 P ops Q n KD Z ((w'.heap.size,w2.heap.size)::I) (j::ls) a2 w2→K a2 w2)→oj.wp P a w' K (NoPanic Q)) :
 Xr L w0 P ops Q (n+1) KD Z I ls a w:=by
 intro hKD;simp only[Bool.and_eq_true,beq_iff_eq] at hr;obtain⟨hr,hZ⟩:=hr;have hZi:(KD.all fun x=>x.1 != i)=true:=by
  rw[List.all_eq_true] at hZ ⊢;intro x hx;have:=hZ x hx;simp only[Bool.and_eq_true] at this;exact this.1
 have hZj:(KD.all fun x=>x.1 != j)=true:=by
  rw[List.all_eq_true] at hZ ⊢;intro x hx;have:=hZ x hx;simp only[Bool.and_eq_true] at this;exact this.2
 refine⟨fun h0=>(by rw[hr] at h0;cases h0),fun k hk w' x1 x2=>?_⟩;rw[hr] at hk
 (try unfold stepX)
 have hk2:k=i∨k=j:=by simpa using hk
 rcases hk2 with rfl|rfl
 ·rw[find_no (kd_find (by rw[hKD];exact hZi))];refine step_of hoi hwi fun K' hK'=>h1 w' x1 x2 K' fun a2 w2 h3 h4 h5=>hK' a2 w2 ⟨h3,h4,?_⟩;rw[bits_set];exact h5 hKD
 ·rw[find_no (kd_find (by rw[hKD];exact hZj))];refine step_of hoj hwj fun K' hK'=>h2 w' x1 x2 K' fun a2 w2 h3 h4 h5=>hK' a2 w2 ⟨h3,h4,?_⟩;rw[bits_set];exact h5 hKD
end
end
section
open Go.RowKit
open Go.ChangeMaps (setBlock)
structure KLaw {α:Type}[DecidableEq α](P:Program)(k:TypeId)(kv:α→Value):Prop where
 check:∀(e:Bool) (x:α) (w:World),(Instr.checkKey e 10000 k (kv x)).run P w=.ok () w
 find:∀(x:α) (es:List MapEntry) (ks:List α),es.map (·.key)=ks.map kv→∀w:World,(Instr.findKey k (kv x) es).run P w=.ok ((ks.findIdx? (· == x)).map fun i=>(i,((es[i]?).map (·.val)).getD undef)) w
 same:∀x:α,Instr.sameBits 10000 (kv x) (kv x)=true
theorem findNow_int {kd:IntKind}{k:IntKind}(x:Int):∀(es:List MapEntry) (ks:List Int) (j:Nat),es.map (·.key)=ks.map (Value.int kd)→
 Instr.findNow (.int k) (.int kd x) es j=some ((ks.findIdx? (· == x)).map fun i=>(j+i,((es[i]?).map (·.val)).getD undef))
 | [],[],_,_=>by simp[Instr.findNow]
 | [],_::_,_,h=>by simp at h
 | _::_,[],_,h=>by simp at h
 | e::es,y::ks,j,h=>by
  simp only[List.map_cons,List.cons.injEq] at h;simp only[Instr.findNow,h.1,Instr.sameNow,if_true];have ih:=findNow_int (k:=k) x es ks (j+1) h.2;by_cases hxy:x=y
  ·subst hxy;simp[List.findIdx?_cons]
  ·have e1:(x == y)=false:=by simp[hxy]
   have e2:(y == x)=false:=by simp;exact fun e=>hxy e.symm
   rw[e1];simp only[ih,List.findIdx?_cons,e2,Bool.false_eq_true,if_false,Option.map_map]
   congr 2
   funext i
   simp only[Function.comp,List.getElem?_cons_succ]
   congr 1;omega
theorem findAsking_of {P:Program}{k:TypeId}{α:Type}[DecidableEq α]{kv:α→Value}(heq:∀x y (w:World),(Op.equal k (kv x) (kv y)).run P w=.ok (decide (x=y)) w)(x:α)(w:World) :
 ∀(es:List MapEntry) (ks:List α) (j:Nat),es.map (·.key)=ks.map kv→
 (Instr.findAsking k (kv x) es j).run P w=.ok ((ks.findIdx? (· == x)).map fun i=>(j+i,((es[i]?).map (·.val)).getD undef)) w
 | [],[],_,_=>by simp[Instr.findAsking]
 | [],_::_,_,h=>by simp at h
 | _::_,[],_,h=>by simp at h
 | e::es,y::ks,j,h=>by
  simp only[List.map_cons,List.cons.injEq] at h;have ih:=findAsking_of heq x w es ks (j+1) h.2;unfold Instr.findAsking;simp only[Sem.run_bind,h.1,heq,Result.andThen_ok];by_cases hxy:x=y
  ·subst hxy;simp[List.findIdx?_cons]
  ·have e2:(y == x)=false:=by simp;exact fun e=>hxy e.symm
   simp only[hxy,decide_false,Bool.false_eq_true,if_false,ih,List.findIdx?_cons,e2,Option.map_map]
   congr 2
   funext i
   simp only[Function.comp,List.getElem?_cons_succ]
   congr 1;omega
theorem asking_klaw {P:Program}{k:TypeId}{α:Type}[DecidableEq α]{kv:α→Value}{d:TypeDesc}(hk:P.underlying k=some d)(hno:∀x y:α,Instr.sameNow d (kv x) (kv y)=none)
 (heq:∀x y (w:World),(Op.equal k (kv x) (kv y)).run P w=.ok (decide (x=y)) w) (hck:∀(e:Bool) (x:α) (w:World),(Instr.checkKey e 10000 k (kv x)).run P w=.ok () w)
 (hsame:∀x:α,Instr.sameBits 10000 (kv x) (kv x)=true):KLaw P k kv where
 check:=hck
 same:=hsame
 find:=fun x es ks h w=>by
  unfold Instr.findKey;simp only[Sem.run_bind,run_underlying hk,Result.andThen_ok]
  match es,ks,h with
  | [],[],_=>simp[Instr.findNow]
  | e::es,y::ks,h=>
   have h':=h;simp only[List.map_cons,List.cons.injEq] at h';have e1:Instr.findNow d (kv x) (e::es) 0=none:=by simp[Instr.findNow,h'.1,hno]
   rw[e1];have:=findAsking_of heq x w (e::es) (y::ks) 0 h
   simpa using this
section
variable {α β:Type}
def MapAt (w:World)(b:Nat)(kv:α→Value)(vv:β→Value)(l:List (α×β)):Prop:=
 ∃(es:Array MapEntry) (clock:Nat),w.heap[b]? = some (.map es clock)∧es.toList.map (fun e=>(e.key,e.val))=l.map (fun p=>(kv p.1,vv p.2))∧(l.map (·.1)).Nodup∧
  (es.toList.map (·.born)).Nodup∧∀e∈es.toList,e.born<clock
variable {P:Program} {w w':World} {b k e t:Nat} {kv:α→Value} {vv:β→Value} {l:List (α×β)}
theorem MapAt.made (w:World)(kv:α→Value)(vv:β→Value):MapAt (w.alloc (.map #[] 0)) w.heap.size kv vv []:=
 ⟨#[],0,by show(w.heap.push _)[w.heap.size]? = _;simp,by simp,by simp,by simp,by simp⟩
theorem MapAt.lt (h:MapAt w b kv vv l):b<w.heap.size:=by
 obtain⟨es,clock,h,_⟩:=h;exact(Array.getElem?_eq_some_iff.1 h).1
theorem MapAt.ext (h:MapAt w b kv vv l)(x:Ext w w'):MapAt w' b kv vv l:=by
 have hl:=h.lt;obtain⟨es,clock,h,r⟩:=h;exact⟨es,clock,(x.block b hl).trans h,r⟩
theorem MapAt.kp {p:Nat→Prop}(h:MapAt w b kv vv l)(x:KpP p w w')(hn:¬p b):MapAt w' b kv vv l:=by
 have hl:=h.lt;obtain⟨es,clock,h,r⟩:=h;exact⟨es,clock,(x.block b hl hn).trans h,r⟩
theorem MapAt.ne (h:MapAt w b kv vv l){g T:Nat}{cs:Array Value}(hb:Blk w g T cs):b≠g:=by
 rintro rfl;obtain⟨es,clock,h,_⟩:=h;unfold Blk at hb;rw[hb] at h;cases h
def at? [DecidableEq α](l:List (α×β))(x:α):Option β:=(l.find? (fun p=>p.1 == x)).map (·.2)
def putL [DecidableEq α](l:List (α×β))(x:α)(v:β):List (α×β):=if l.any (fun p=>p.1 == x) then l.map (fun p=>if p.1=x then(x,v) else p) else l++[(x,v)]
theorem keys_of {es:List MapEntry}(h:es.map (fun e=>(e.key,e.val))=l.map (fun p=>(kv p.1,vv p.2))):es.map (·.key)=(l.map (·.1)).map kv:=by
 have:=congrArg (List.map Prod.fst) h
 simpa[List.map_map,Function.comp_def] using this
theorem find_idx [DecidableEq α](x:α):∀l:List (α×β),(l.map (·.1)).findIdx? (· == x)=l.findIdx? (fun p=>p.1 == x)
 | []=>rfl
 | p::l=>by simp only[List.map_cons,List.findIdx?_cons,find_idx x l]
theorem val_at {es:List MapEntry}(h:es.map (fun e=>(e.key,e.val))=l.map (fun p=>(kv p.1,vv p.2)))(i:Nat):((es[i]?).map (·.val))=(l[i]?).map (fun p=>vv p.2):=by
 have:=congrArg (fun z=>(z[i]?).map Prod.snd) h
 simpa[List.getElem?_map,Option.map_map,Function.comp_def] using this
theorem find_get [DecidableEq α](x:α):∀l:List (α×β),(l.findIdx? (fun p=>p.1 == x)).bind (fun i=>l[i]?)=l.find? (fun p=>p.1 == x)
 | []=>rfl
 | p::l=>by
  have ih:=find_get x l;simp only[List.findIdx?_cons,List.find?_cons]
  cases hb:p.1 == x with
  | true=>simp
  | false=>
   simp only[Bool.false_eq_true,if_false]
   rw[←ih]
   cases List.findIdx? (fun p=>p.1 == x) l<;>simp
theorem MapAt.look [DecidableEq α](h:MapAt w b kv vv l)(K:KLaw P k kv)(ht:P.underlying t=some (.map k e)){z:Value}(hz:(zeroValue e).run P w=.ok z w)(x:α) :
 (Instr.lookup t (.map (some b)) (kv x) false).run P w=.ok (((at? l x).map vv).getD z) w∧
 (Instr.lookup t (.map (some b)) (kv x) true).run P w=.ok (.tuple #[((at? l x).map vv).getD z,.bool (at? l x).isSome]) w:=by
 obtain⟨es,clock,hb,hes,_⟩:=h;have hf:=K.find x es.toList (l.map (·.1)) (keys_of hes) w;rw[find_idx] at hf;have hat:at? l x=((l.findIdx? (fun p=>p.1 == x)).bind (fun i=>l[i]?)).map (·.2):=by rw[find_get];rfl
 constructor
 all_goals
  simp only[Instr.lookup,Sem.run_bind,run_underlying ht,Result.andThen_ok,MapKept.run_getObj_map hb,Sem.run_pure,K.check,hf]
  cases hi:l.findIdx? (fun p=>p.1 == x) with
  | none=>rw[hi] at hat;simp[hat,hz]
  | some i=>
   rw[hi] at hat;have hi2:=List.findIdx?_eq_some_iff_getElem.1 hi;obtain⟨hlt,_⟩:=hi2;have hv:=val_at hes i;simp only[Option.bind_some,List.getElem?_eq_getElem hlt,Option.map_some] at hat hv;simp only[Option.map_some];rw[hv];simp[hat]
theorem heap_setBlock (w:World)(b:Nat)(o:Obj)(hb:b<w.heap.size):(setBlock w b o).heap[b]? = some o:=by
 simp[setBlock,hb]
theorem kp_setBlock (w:World)(b:Nat)(o:Obj):KpP (·=b) w (setBlock w b o):=
 ⟨rfl,rfl,rfl,by simp[setBlock],fun k _ hn=>by simp only[setBlock];rw[Array.getElem?_setIfInBounds_ne (fun e=>hn e.symm)]⟩
theorem pairs_born {es:Array MapEntry}{l:List (α×β)}(h:es.toList.map (fun e=>(e.key,e.val))=l.map (fun p=>(kv p.1,vv p.2))):es.size=l.length:=by
 have:=congrArg List.length h
 simpa using this
theorem any_find [DecidableEq α](x:α)(l:List (α×β)):l.any (fun p=>p.1 == x)=(l.findIdx? (fun p=>p.1 == x)).isSome:=by
 induction l with
 | nil=>rfl
 | cons p l ih=>simp only[List.any_cons,List.findIdx?_cons,ih];cases p.1 == x<;>simp
theorem modify_map [DecidableEq α](x:α)(v:β):∀(l:List (α×β)),(l.map (·.1)).Nodup→∀i,l.findIdx? (fun p=>p.1 == x)=some i→l.modify i (fun _=>(x,v))=l.map (fun p=>if p.1=x then(x,v) else p)
 | [],_,i,h=>by simp at h
 | p::l,hn,i,h=>by
  simp only[List.map_cons,List.nodup_cons] at hn;rw[List.findIdx?_cons] at h;by_cases hp:p.1=x
  ·have hb:(p.1 == x)=true:=by simpa using hp
   rw[hb] at h;simp only[if_true,Option.some.injEq] at h;subst h;simp only[List.modify_zero_cons,List.map_cons,hp,if_true,List.cons.injEq,true_and]
   symm
   rw[List.map_congr_left (g:=id),List.map_id];intro q hq;have:q.1≠x:=fun e=>hn.1 (by rw[hp,←e];exact List.mem_map.2 ⟨q,hq,rfl⟩);simp[this]
  ·have hb:(p.1 == x)=false:=by simpa using hp
   rw[hb] at h;simp only[Bool.false_eq_true,if_false] at h
   cases hj:l.findIdx? (fun p=>p.1 == x) with
   | none=>rw[hj] at h;simp at h
   | some j=>
    rw[hj] at h;simp only[Option.map_some,Option.some.injEq] at h;subst h;simp only[List.modify_succ_cons,List.map_cons,hp,if_false,modify_map x v l hn.2 j hj]
theorem map_modify_entry (es:List MapEntry)(f:MapEntry→MapEntry)(g:Value×Value→Value×Value)(hfg:∀e,((f e).key,(f e).val)=g (e.key,e.val))(i:Nat) :
 (es.modify i f).map (fun e=>(e.key,e.val))=(es.map (fun e=>(e.key,e.val))).modify i g:=by
 induction es generalizing i with
 | nil=>cases i<;>rfl
 | cons e es ih=>
  cases i with
  | zero=>simp[hfg]
  | succ i=>simp[ih]
theorem MapAt.put [DecidableEq α](h:MapAt w b kv vv l)(K:KLaw P k kv)(ht:P.underlying t=some (.map k e))(x:α)(v:β) :
 ∃o,(Instr.mapUpdate t (.map (some b)) (kv x) (vv v)).run P w=.ok () (setBlock w b o)∧MapAt (setBlock w b o) b kv vv (putL l x v):=by
 have hlt:=h.lt;obtain⟨es,clock,hb,hes,hnd,hbn,hbl⟩:=h;have hf:=K.find x es.toList (l.map (·.1)) (keys_of hes) w;rw[find_idx] at hf
 cases hi:l.findIdx? (fun p=>p.1 == x) with
 | none=>
  rw[hi] at hf;refine⟨.map (es.push { key:=kv x,val:=vv v,born:=clock }) (clock+1),?_,?_⟩
  ·simp only[Instr.mapUpdate,Sem.run_bind,run_underlying ht,Result.andThen_ok,MapKept.run_getObj_map hb,K.check,hf,Option.map_none];exact MapKept.run_setObj_map _ hb
  ·have hput:putL l x v=l++[(x,v)]:=by unfold putL;rw[any_find,hi];rfl
   rw[hput];refine⟨_,_,heap_setBlock w b _ hlt,?_,?_,?_,?_⟩
   ·simp[hes]
   ·rw[List.map_append,List.nodup_append];refine⟨hnd,by simp,?_⟩;intro y hy z hz hyz;have hz2:z=x:=by simpa using hz
    subst hz2;obtain⟨p,hp,rfl⟩:=List.mem_map.1 hy;have:=List.findIdx?_eq_none_iff.1 hi p hp;simp[hyz] at this
   ·simp only[Array.toList_push,List.map_append,List.nodup_append];refine⟨hbn,by simp,?_⟩;intro y hy z hz hyz;obtain⟨p,hp,rfl⟩:=List.mem_map.1 hy;have:=hbl p hp;have hz2:z=clock:=by simpa using hz
    omega
   ·intro e he;simp only[Array.toList_push,List.mem_append,List.mem_singleton] at he;rcases he with he|rfl
    ·have:=hbl e he;omega
    ·simp
 | some i=>
  rw[hi] at hf;obtain⟨hil,hix,_⟩:=List.findIdx?_eq_some_iff_getElem.1 hi;have hie:i<es.size:=by rw[pairs_born hes];exact hil
  have hkey:es[i].key=kv x:=by
   have h1:=keys_of hes;have h2:=congrArg (fun z=>z[i]?) h1;simp only[List.getElem?_map,List.getElem?_eq_getElem hil,Option.map_some] at h2;have h3:l[i].1=x:=by simpa using hix
   rw[h3] at h2;have h4:es.toList[i]? = some es[i]:=by simp[hie]
   rw[h4] at h2
   simpa using h2
  refine⟨.map (es.modify i fun e=>{ e with key:=kv x,val:=vv v }) clock,?_,?_⟩
  ·have h4:es[i]? = some es[i]:=by simp[hie]
   simp only[Instr.mapUpdate,Sem.run_bind,run_underlying ht,Result.andThen_ok,MapKept.run_getObj_map hb,K.check,hf,Option.map_some,h4,Option.getD_some,Instr.keyThatStays,hkey,K.same,if_true,Sem.run_pure];exact MapKept.run_setObj_map _ hb
  ·have hput:putL l x v=l.modify i (fun _=>(x,v)):=by unfold putL;rw[any_find,hi,modify_map x v l hnd i hi];rfl
   have hkeys:(l.modify i (fun _=>(x,v))).map (·.1)=l.map (·.1):=by
    apply List.ext_getElem?;intro j;rw[List.getElem?_map,List.getElem?_map,List.getElem?_modify];by_cases hij:i=j
    ·subst hij;rw[List.getElem?_eq_getElem hil];have h3:l[i].1=x:=by simpa using hix
     simp[h3]
    ·simp[hij]
   have hborn:(es.modify i fun e=>{ e with key:=kv x,val:=vv v }).toList.map (·.born)=es.toList.map (·.born):=by
    rw[Array.toList_modify];apply List.ext_getElem?;intro j;rw[List.getElem?_map,List.getElem?_map,List.getElem?_modify];by_cases hij:i=j
    ·subst hij;cases es.toList[i]?<;>simp
    ·simp[hij]
   rw[hput];refine⟨_,_,heap_setBlock w b _ hlt,?_,by rw[hkeys];exact hnd,by rw[hborn];exact hbn,?_⟩
   ·rw[Array.toList_modify,map_modify_entry _ _ (fun _=>(kv x,vv v)) (fun _=>rfl),hes];apply List.ext_getElem?;intro j;rw[List.getElem?_modify,List.getElem?_map,List.getElem?_map,List.getElem?_modify];by_cases hij:i=j
    ·subst hij;cases l[i]?<;>simp
    ·simp[hij]
   ·intro e he;have:e.born∈es.toList.map (·.born):=by rw[←hborn];exact List.mem_map.2 ⟨e,he,rfl⟩
    obtain⟨e',he',h5⟩:=List.mem_map.1 this
    rw[←h5];exact hbl e' he'
end
end
end Go.Proofs.YtmocoldobnimfaaGreat
