/- Texts of this proof: Mp II E1 E2 Fs Fk P1 P2. -/
import Derived.Test.YtmpcoifnpflapaaGreatER02
import Derived.Maps.RangeRun
import Derived.ChangeMaps5
import Derived.WideLaws
import Derived.Carry
import Derived.Test.YtmpcoifnpflapaaGreatRows
import Derived.WalkKit
import Derived.WalkLawsBesides
import Derived.Deep.QuietTactic
import Derived.BigQuiet
set_option linter.all false
set_option maxHeartbeats 1000000
namespace Go.Proofs.YtmpcoifnpflapaaGreat
section
open Go.RowKit
open Go.ChangeMaps (setBlock)
structure KLaw {α:Type}[DecidableEq α](P:Program)(k:TypeId)(kv:α->Value):Prop where
 check:∀(e:Bool) (x:α) (w:World),(Instr.checkKey e 10000 k (kv x)).run P w=.ok () w
 find:∀(x:α) (es:List MapEntry) (ks:List α),es.map (·.key)=ks.map kv->∀w:World,(Instr.findKey k (kv x) es).run P w=.ok ((ks.findIdx? (· == x)).map fun i=>(i,((es[i]?).map (·.val)).getD undef)) w
 same:∀x:α,Instr.sameBits 10000 (kv x) (kv x)=true
theorem findNow_int {kd:IntKind}{k:IntKind}(x:Int):∀(es:List MapEntry) (ks:List Int) (j:Nat),es.map (·.key)=ks.map (Value.int kd)->
 Instr.findNow (.int k) (.int kd x) es j=some ((ks.findIdx? (· == x)).map fun i=>(j+i,((es[i]?).map (·.val)).getD undef))
 | [],[],_,_=>by simp[Instr.findNow]
 | [],_::_,_,h=>by simp at h
 | _::_,[],_,h=>by simp at h
 | e::es,y::ks,j,h=>by
  simp only[List.map_cons,List.cons.injEq] at h;simp only[Instr.findNow,h.1,Instr.sameNow,if_true];have ih:=findNow_int (k:=k) x es ks (j+1) h.2;by_cases hxy:x=y
  ·subst hxy;simp[List.findIdx?_cons]
  ·have e1:(x == y)=false:=by simp[hxy]
   have e2:(y == x)=false:=by simp;exact fun e=>hxy e.symm
   rw[e1];simp only[ih,List.findIdx?_cons,e2,Bool.false_eq_true,if_false,Option.map_map]
   congr 2
   funext i
   simp only[Function.comp,List.getElem?_cons_succ]
   congr 1;omega
theorem int_klaw {P:Program}{k:TypeId}{kd:IntKind}(hk:P.underlying k=some (.int kd)):KLaw P k (Value.int kd) where
 check:=fun e x w=>by
  unfold Instr.checkKey;simp[Sem.run_bind,run_underlying hk]
 find:=fun x es ks h w=>by
  unfold Instr.findKey;simp only[Sem.run_bind,run_underlying hk,Result.andThen_ok,findNow_int x es ks 0 h]
  simp
 same:=fun x=>by simp[Instr.sameBits]
theorem findAsking_of {P:Program}{k:TypeId}{α:Type}[DecidableEq α]{kv:α->Value}(heq:∀x y (w:World),(Op.equal k (kv x) (kv y)).run P w=.ok (decide (x=y)) w)(x:α)(w:World) :
 ∀(es:List MapEntry) (ks:List α) (j:Nat),es.map (·.key)=ks.map kv->
 (Instr.findAsking k (kv x) es j).run P w=.ok ((ks.findIdx? (· == x)).map fun i=>(j+i,((es[i]?).map (·.val)).getD undef)) w
 | [],[],_,_=>by simp[Instr.findAsking]
 | [],_::_,_,h=>by simp at h
 | _::_,[],_,h=>by simp at h
 | e::es,y::ks,j,h=>by
  simp only[List.map_cons,List.cons.injEq] at h;have ih:=findAsking_of heq x w es ks (j+1) h.2;unfold Instr.findAsking;simp only[Sem.run_bind,h.1,heq,Result.andThen_ok];by_cases hxy:x=y
  ·subst hxy;simp[List.findIdx?_cons]
  ·have e2:(y == x)=false:=by simp;exact fun e=>hxy e.symm
   simp only[hxy,decide_false,Bool.false_eq_true,if_false,ih,List.findIdx?_cons,e2,Option.map_map]
   congr 2
   funext i
   simp only[Function.comp,List.getElem?_cons_succ]
   congr 1;omega
theorem asking_klaw {P:Program}{k:TypeId}{α:Type}[DecidableEq α]{kv:α->Value}{d:TypeDesc}(hk:P.underlying k=some d)(hno:∀x y:α,Instr.sameNow d (kv x) (kv y)=none)
 (heq:∀x y (w:World),(Op.equal k (kv x) (kv y)).run P w=.ok (decide (x=y)) w) (hck:∀(e:Bool) (x:α) (w:World),(Instr.checkKey e 10000 k (kv x)).run P w=.ok () w)
 (hsame:∀x:α,Instr.sameBits 10000 (kv x) (kv x)=true):KLaw P k kv where
 check:=hck
 same:=hsame
 find:=fun x es ks h w=>by
  unfold Instr.findKey;simp only[Sem.run_bind,run_underlying hk,Result.andThen_ok]
  match es,ks,h with
  | [],[],_=>simp[Instr.findNow]
  | e::es,y::ks,h=>
   have h':=h;simp only[List.map_cons,List.cons.injEq] at h';have e1:Instr.findNow d (kv x) (e::es) 0=none:=by simp[Instr.findNow,h'.1,hno]
   rw[e1];have:=findAsking_of heq x w (e::es) (y::ks) 0 h
   simpa using this
section
variable {α β:Type}
def MapAt (w:World)(b:Nat)(kv:α->Value)(vv:β->Value)(l:List (α×β)):Prop:=
 ∃(es:Array MapEntry) (clock:Nat),w.heap[b]? = some (.map es clock)/\es.toList.map (fun e=>(e.key,e.val))=l.map (fun p=>(kv p.1,vv p.2))/\(l.map (·.1)).Nodup/\
  (es.toList.map (·.born)).Nodup/\∀e∈es.toList,e.born<clock
variable {P:Program} {w w':World} {b k e t:Nat} {kv:α->Value} {vv:β->Value} {l:List (α×β)}
theorem MapAt.made (w:World)(kv:α->Value)(vv:β->Value):MapAt (w.alloc (.map #[] 0)) w.heap.size kv vv []:=
 ⟨#[],0,by show(w.heap.push _)[w.heap.size]? = _;simp,by simp,by simp,by simp,by simp⟩
theorem MapAt.lt (h:MapAt w b kv vv l):b<w.heap.size:=by
 obtain⟨es,clock,h,_⟩:=h;exact(Array.getElem?_eq_some_iff.1 h).1
theorem MapAt.ext (h:MapAt w b kv vv l)(x:Ext w w'):MapAt w' b kv vv l:=by
 have hl:=h.lt;obtain⟨es,clock,h,r⟩:=h;exact⟨es,clock,(x.block b hl).trans h,r⟩
theorem MapAt.kp {p:Nat->Prop}(h:MapAt w b kv vv l)(x:KpP p w w')(hn:¬p b):MapAt w' b kv vv l:=by
 have hl:=h.lt;obtain⟨es,clock,h,r⟩:=h;exact⟨es,clock,(x.block b hl hn).trans h,r⟩
theorem MapAt.ne (h:MapAt w b kv vv l){g T:Nat}{cs:Array Value}(hb:Blk w g T cs):b≠g:=by
 rintro rfl;obtain⟨es,clock,h,_⟩:=h;unfold Blk at hb;rw[hb] at h;cases h
theorem MapAt.cellNe (h:MapAt w b kv vv l){p:Addr}{v:Value}(hc:w.cell? p=some v):p.block≠b:=by
 rintro rfl;obtain⟨es,clock,h,_⟩:=h;simp[World.cell?,h] at hc
def at? [DecidableEq α](l:List (α×β))(x:α):Option β:=(l.find? (fun p=>p.1 == x)).map (·.2)
def putL [DecidableEq α](l:List (α×β))(x:α)(v:β):List (α×β):=if l.any (fun p=>p.1 == x) then l.map (fun p=>if p.1=x then(x,v) else p) else l++[(x,v)]
def delL [DecidableEq α](l:List (α×β))(x:α):List (α×β):=l.filter (fun p=>!(p.1 == x))
theorem keys_of {es:List MapEntry}(h:es.map (fun e=>(e.key,e.val))=l.map (fun p=>(kv p.1,vv p.2))):es.map (·.key)=(l.map (·.1)).map kv:=by
 have:=congrArg (List.map Prod.fst) h
 simpa[List.map_map,Function.comp_def] using this
theorem find_idx [DecidableEq α](x:α):∀l:List (α×β),(l.map (·.1)).findIdx? (· == x)=l.findIdx? (fun p=>p.1 == x)
 | []=>rfl
 | p::l=>by simp only[List.map_cons,List.findIdx?_cons,find_idx x l]
theorem val_at {es:List MapEntry}(h:es.map (fun e=>(e.key,e.val))=l.map (fun p=>(kv p.1,vv p.2)))(i:Nat):((es[i]?).map (·.val))=(l[i]?).map (fun p=>vv p.2):=by
 have:=congrArg (fun z=>(z[i]?).map Prod.snd) h
 simpa[List.getElem?_map,Option.map_map,Function.comp_def] using this
theorem find_get [DecidableEq α](x:α):∀l:List (α×β),(l.findIdx? (fun p=>p.1 == x)).bind (fun i=>l[i]?)=l.find? (fun p=>p.1 == x)
 | []=>rfl
 | p::l=>by
  have ih:=find_get x l;simp only[List.findIdx?_cons,List.find?_cons]
  cases hb:p.1 == x with
  | true=>simp
  | false=>
   simp only[Bool.false_eq_true,if_false]
   rw[<-ih]
   cases List.findIdx? (fun p=>p.1 == x) l<;>simp
theorem MapAt.look [DecidableEq α](h:MapAt w b kv vv l)(K:KLaw P k kv)(ht:P.underlying t=some (.map k e)){z:Value}(hz:(zeroValue e).run P w=.ok z w)(x:α) :
 (Instr.lookup t (.map (some b)) (kv x) false).run P w=.ok (((at? l x).map vv).getD z) w/\
 (Instr.lookup t (.map (some b)) (kv x) true).run P w=.ok (.tuple #[((at? l x).map vv).getD z,.bool (at? l x).isSome]) w:=by
 obtain⟨es,clock,hb,hes,_⟩:=h;have hf:=K.find x es.toList (l.map (·.1)) (keys_of hes) w;rw[find_idx] at hf;have hat:at? l x=((l.findIdx? (fun p=>p.1 == x)).bind (fun i=>l[i]?)).map (·.2):=by rw[find_get];rfl
 constructor
 all_goals
  simp only[Instr.lookup,Sem.run_bind,run_underlying ht,Result.andThen_ok,MapKept.run_getObj_map hb,Sem.run_pure,K.check,hf]
  cases hi:l.findIdx? (fun p=>p.1 == x) with
  | none=>rw[hi] at hat;simp[hat,hz]
  | some i=>
   rw[hi] at hat;have hi2:=List.findIdx?_eq_some_iff_getElem.1 hi;obtain⟨hlt,_⟩:=hi2;have hv:=val_at hes i;simp only[Option.bind_some,List.getElem?_eq_getElem hlt,Option.map_some] at hat hv;simp only[Option.map_some];rw[hv];simp[hat]
theorem MapAt.len (h:MapAt w b kv vv l):∃es clock,w.heap[b]? = some (.map es clock)/\es.size=l.length:=by
 obtain⟨es,clock,hb,hes,_⟩:=h;refine⟨es,clock,hb,?_⟩;have:=congrArg List.length hes
 simpa using this
theorem heap_setBlock (w:World)(b:Nat)(o:Obj)(hb:b<w.heap.size):(setBlock w b o).heap[b]? = some o:=by
 simp[setBlock,hb]
theorem kp_setBlock (w:World)(b:Nat)(o:Obj):KpP (·=b) w (setBlock w b o):=
 ⟨rfl,rfl,rfl,by simp[setBlock],fun k _ hn=>by simp only[setBlock];rw[Array.getElem?_setIfInBounds_ne (fun e=>hn e.symm)]⟩
theorem pairs_born {es:Array MapEntry}{l:List (α×β)}(h:es.toList.map (fun e=>(e.key,e.val))=l.map (fun p=>(kv p.1,vv p.2))):es.size=l.length:=by
 have:=congrArg List.length h
 simpa using this
theorem any_find [DecidableEq α](x:α)(l:List (α×β)):l.any (fun p=>p.1 == x)=(l.findIdx? (fun p=>p.1 == x)).isSome:=by
 induction l with
 | nil=>rfl
 | cons p l ih=>simp only[List.any_cons,List.findIdx?_cons,ih];cases p.1 == x<;>simp
theorem modify_map [DecidableEq α](x:α)(v:β):∀(l:List (α×β)),(l.map (·.1)).Nodup->∀i,l.findIdx? (fun p=>p.1 == x)=some i->l.modify i (fun _=>(x,v))=l.map (fun p=>if p.1=x then(x,v) else p)
 | [],_,i,h=>by simp at h
 | p::l,hn,i,h=>by
  simp only[List.map_cons,List.nodup_cons] at hn;rw[List.findIdx?_cons] at h;by_cases hp:p.1=x
  ·have hb:(p.1 == x)=true:=by simpa using hp
   rw[hb] at h;simp only[if_true,Option.some.injEq] at h;subst h;simp only[List.modify_zero_cons,List.map_cons,hp,if_true,List.cons.injEq,true_and]
   symm
   rw[List.map_congr_left (g:=id),List.map_id];intro q hq;have:q.1≠x:=fun e=>hn.1 (by rw[hp,<-e];exact List.mem_map.2 ⟨q,hq,rfl⟩);simp[this]
  ·have hb:(p.1 == x)=false:=by simpa using hp
   rw[hb] at h;simp only[Bool.false_eq_true,if_false] at h
   cases hj:l.findIdx? (fun p=>p.1 == x) with
   | none=>rw[hj] at h;simp at h
   | some j=>
    rw[hj] at h;simp only[Option.map_some,Option.some.injEq] at h;subst h;simp only[List.modify_succ_cons,List.map_cons,hp,if_false,modify_map x v l hn.2 j hj]
theorem map_modify_entry (es:List MapEntry)(f:MapEntry->MapEntry)(g:Value×Value->Value×Value)(hfg:∀e,((f e).key,(f e).val)=g (e.key,e.val))(i:Nat) :
 (es.modify i f).map (fun e=>(e.key,e.val))=(es.map (fun e=>(e.key,e.val))).modify i g:=by
 induction es generalizing i with
 | nil=>cases i<;>rfl
 | cons e es ih=>
  cases i with
  | zero=>simp[hfg]
  | succ i=>simp[ih]
theorem MapAt.put [DecidableEq α](h:MapAt w b kv vv l)(K:KLaw P k kv)(ht:P.underlying t=some (.map k e))(x:α)(v:β) :
 ∃o,(Instr.mapUpdate t (.map (some b)) (kv x) (vv v)).run P w=.ok () (setBlock w b o)/\MapAt (setBlock w b o) b kv vv (putL l x v):=by
 have hlt:=h.lt;obtain⟨es,clock,hb,hes,hnd,hbn,hbl⟩:=h;have hf:=K.find x es.toList (l.map (·.1)) (keys_of hes) w;rw[find_idx] at hf
 cases hi:l.findIdx? (fun p=>p.1 == x) with
 | none=>
  rw[hi] at hf;refine⟨.map (es.push { key:=kv x,val:=vv v,born:=clock }) (clock+1),?_,?_⟩
  ·simp only[Instr.mapUpdate,Sem.run_bind,run_underlying ht,Result.andThen_ok,MapKept.run_getObj_map hb,K.check,hf,Option.map_none];exact MapKept.run_setObj_map _ hb
  ·have hput:putL l x v=l++[(x,v)]:=by unfold putL;rw[any_find,hi];rfl
   rw[hput];refine⟨_,_,heap_setBlock w b _ hlt,?_,?_,?_,?_⟩
   ·simp[hes]
   ·rw[List.map_append,List.nodup_append];refine⟨hnd,by simp,?_⟩;intro y hy z hz hyz;have hz2:z=x:=by simpa using hz
    subst hz2;obtain⟨p,hp,rfl⟩:=List.mem_map.1 hy;have:=List.findIdx?_eq_none_iff.1 hi p hp;simp[hyz] at this
   ·simp only[Array.toList_push,List.map_append,List.nodup_append];refine⟨hbn,by simp,?_⟩;intro y hy z hz hyz;obtain⟨p,hp,rfl⟩:=List.mem_map.1 hy;have:=hbl p hp;have hz2:z=clock:=by simpa using hz
    omega
   ·intro e he;simp only[Array.toList_push,List.mem_append,List.mem_singleton] at he;rcases he with he|rfl
    ·have:=hbl e he;omega
    ·simp
 | some i=>
  rw[hi] at hf;obtain⟨hil,hix,_⟩:=List.findIdx?_eq_some_iff_getElem.1 hi;have hie:i<es.size:=by rw[pairs_born hes];exact hil
  have hkey:es[i].key=kv x:=by
   have h1:=keys_of hes;have h2:=congrArg (fun z=>z[i]?) h1;simp only[List.getElem?_map,List.getElem?_eq_getElem hil,Option.map_some] at h2;have h3:l[i].1=x:=by simpa using hix
   rw[h3] at h2;have h4:es.toList[i]? = some es[i]:=by simp[hie]
   rw[h4] at h2
   simpa using h2
  refine⟨.map (es.modify i fun e=>{ e with key:=kv x,val:=vv v }) clock,?_,?_⟩
  ·have h4:es[i]? = some es[i]:=by simp[hie]
   simp only[Instr.mapUpdate,Sem.run_bind,run_underlying ht,Result.andThen_ok,MapKept.run_getObj_map hb,K.check,hf,Option.map_some,h4,Option.getD_some,Instr.keyThatStays,hkey,K.same,if_true,Sem.run_pure];exact MapKept.run_setObj_map _ hb
  ·have hput:putL l x v=l.modify i (fun _=>(x,v)):=by unfold putL;rw[any_find,hi,modify_map x v l hnd i hi];rfl
   have hkeys:(l.modify i (fun _=>(x,v))).map (·.1)=l.map (·.1):=by
    apply List.ext_getElem?;intro j;rw[List.getElem?_map,List.getElem?_map,List.getElem?_modify];by_cases hij:i=j
    ·subst hij;rw[List.getElem?_eq_getElem hil];have h3:l[i].1=x:=by simpa using hix
     simp[h3]
    ·simp[hij]
   have hborn:(es.modify i fun e=>{ e with key:=kv x,val:=vv v }).toList.map (·.born)=es.toList.map (·.born):=by
    rw[Array.toList_modify];apply List.ext_getElem?;intro j;rw[List.getElem?_map,List.getElem?_map,List.getElem?_modify];by_cases hij:i=j
    ·subst hij;cases es.toList[i]?<;>simp
    ·simp[hij]
   rw[hput];refine⟨_,_,heap_setBlock w b _ hlt,?_,by rw[hkeys];exact hnd,by rw[hborn];exact hbn,?_⟩
   ·rw[Array.toList_modify,map_modify_entry _ _ (fun _=>(kv x,vv v)) (fun _=>rfl),hes];apply List.ext_getElem?;intro j;rw[List.getElem?_modify,List.getElem?_map,List.getElem?_map,List.getElem?_modify];by_cases hij:i=j
    ·subst hij;cases l[i]?<;>simp
    ·simp[hij]
   ·intro e he;have:e.born∈es.toList.map (·.born):=by rw[<-hborn];exact List.mem_map.2 ⟨e,he,rfl⟩
    obtain⟨e',he',h5⟩:=List.mem_map.1 this
    rw[<-h5];exact hbl e' he'
theorem map_erase {γ δ:Type}(f:γ->δ):∀(L:List γ) (i:Nat),(L.eraseIdx i).map f=(L.map f).eraseIdx i
 | [],i=>by cases i<;>rfl
 | x::L,0=>rfl
 | x::L,i+1=>by simp[map_erase f L i]
theorem filter_erase {γ δ:Type}[DecidableEq δ](f:γ->δ):∀(L:List γ),(L.map f).Nodup->∀(i:Nat) (hi:i<L.length),L.filter (fun x=>!(f x == f L[i]))=L.eraseIdx i
 | [],_,i,hi=>by simp at hi
 | x::L,hn,0,_=>by
  simp only[List.map_cons,List.nodup_cons] at hn;simp only[List.getElem_cons_zero,List.filter_cons,beq_self_eq_true,Bool.not_true,Bool.false_eq_true,if_false,List.eraseIdx_cons_zero];rw[List.filter_eq_self];intro y hy;have:f y≠f x:=fun e=>hn.1 (by rw[<-e];exact List.mem_map.2 ⟨y,hy,rfl⟩);simp[this]
 | x::L,hn,i+1,hi=>by
  simp only[List.map_cons,List.nodup_cons] at hn;have hi':i<L.length:=by simpa using hi
  have:f x≠f L[i]:=fun e=>hn.1 (by rw[e];exact List.mem_map.2 ⟨_,List.getElem_mem hi',rfl⟩);simp only[List.getElem_cons_succ,List.filter_cons,List.eraseIdx_cons_succ];rw[if_pos (by simp[this]),filter_erase f L hn.2 i hi']
theorem MapAt.del [DecidableEq α](h:MapAt w b kv vv l)(K:KLaw P k kv)(ht:P.underlying t=some (.map k e))(ty:TypeId)(x:α) :
 ∃o,(Builtin.delete_ #[t,k] ty #[.map (some b),kv x]).run P w=.ok (.tuple #[]) (setBlock w b o)/\MapAt (setBlock w b o) b kv vv (delL l x):=by
 have hlt:=h.lt;obtain⟨es,clock,hb,hes,hnd,hbn,hbl⟩:=h;have hf:=K.find x es.toList (l.map (·.1)) (keys_of hes) w;rw[find_idx] at hf
 cases hi:l.findIdx? (fun p=>p.1 == x) with
 | none=>
  rw[hi] at hf;refine⟨.map es clock,?_,?_⟩
  ·simp[Builtin.delete_,run_underlying ht,MapKept.run_getObj_map hb,K.check,hf,MapKept.run_setObj_map _ hb,Result.andThen,setBlock]
  ·have hdel:delL l x=l:=by
    unfold delL;rw[List.filter_eq_self];intro p hp;have:=List.findIdx?_eq_none_iff.1 hi p hp;simp[this]
   rw[hdel];exact⟨_,_,heap_setBlock w b _ hlt,hes,hnd,hbn,hbl⟩
 | some i=>
  rw[hi] at hf;obtain⟨hil,hix,_⟩:=List.findIdx?_eq_some_iff_getElem.1 hi;have h3:l[i].1=x:=by simpa using hix
  have hie:i<es.size:=by rw[pairs_born hes];exact hil
  refine⟨.map (es.eraseIdxIfInBounds i) clock,?_,?_⟩
  ·simp[Builtin.delete_,run_underlying ht,MapKept.run_getObj_map hb,K.check,hf,MapKept.run_setObj_map _ hb,Result.andThen,setBlock]
  ·have hdel:delL l x=l.eraseIdx i:=by
    unfold delL
    rw[<-h3];exact filter_erase (·.1) l hnd i hil
   have htl:(es.eraseIdxIfInBounds i).toList=es.toList.eraseIdx i:=by
    unfold Array.eraseIdxIfInBounds;rw[dif_pos hie];simp
   rw[hdel];refine⟨_,_,heap_setBlock w b _ hlt,?_,?_,?_,?_⟩
   ·rw[htl,map_erase,map_erase,hes]
   ·rw[map_erase];exact List.Nodup.sublist (List.eraseIdx_sublist _ _) hnd
   ·rw[htl,map_erase];exact List.Nodup.sublist (List.eraseIdx_sublist _ _) hbn
   ·intro e he;rw[htl] at he;exact hbl e (List.mem_of_mem_eraseIdx he)
def RngAt (w:World)(r b:Nat)(kv:α->Value)(vv:β->Value)(l left:List (α×β)):Prop:=
 ∃(es:Array MapEntry) (clock since:Nat) (seen:Array Nat),w.heap[r]? = some (.mapIter (some b) since seen clock)/\w.heap[b]? = some (.map es clock)/\
  es.toList.map (fun e=>(e.key,e.val))=l.map (fun p=>(kv p.1,vv p.2))/\(l.map (·.1)).Nodup/\(es.toList.map (·.born)).Nodup/\(∀e∈es.toList,e.born<since)/\since<=clock/\
  (leftOf es seen).toList.map (fun e=>(e.key,e.val))=left.map (fun p=>(kv p.1,vv p.2))/\(left.map (·.1)).Nodup/\left.Sublist l
theorem RngAt.ext {r:Nat}{left:List (α×β)}(h:RngAt w r b kv vv l left)(x:Ext w w'):RngAt w' r b kv vv l left:=by
 obtain⟨es,clock,since,seen,h1,h2,rest⟩:=h;exact⟨es,clock,since,seen,(x.block r (Array.getElem?_eq_some_iff.1 h1).1).trans h1,(x.block b (Array.getElem?_eq_some_iff.1 h2).1).trans h2,rest⟩
theorem MapAt.range (h:MapAt w b kv vv l)(ht:P.underlying t=some (.map k e)) :
 ∃o,(Instr.range t (.map (some b))).run P w=.ok (.pointer (some ⟨w.heap.size,0,none⟩)) (w.alloc o)/\RngAt (w.alloc o) w.heap.size b kv vv l l:=by
 have hlt:=h.lt;obtain⟨es,clock,hb,hes,hnd,hbn,hbl⟩:=h;refine⟨_,run_range_map w t k e b es clock ht hb,es,clock,clock,#[],heap_alloc_new w _,(heap_alloc_old w _ hlt).trans hb,hes,hnd,hbn,hbl,Nat.le_refl _,?_,hnd,List.Sublist.refl _⟩;have:(leftOf es #[]).toList=es.toList:=by unfold leftOf;rw[Array.toList_filter,List.filter_eq_self];simp
 rw[this];exact hes
theorem leftOf_push (es:Array MapEntry)(seen:Array Nat)(n:Nat):(leftOf es (seen.push n)).toList=(leftOf es seen).toList.filter (fun e=>!(e.born == n)):=by
 unfold leftOf;simp only[Array.toList_filter,List.filter_filter];apply List.filter_congr;intro e _;simp only[Array.contains_push,Bool.not_or];rw[Bool.and_comm]
theorem RngAt.next [DecidableEq α]{r:Nat}{left:List (α×β)}(h:RngAt w r b kv vv l left)(ty:TypeId) :
 (left=[]/\(Instr.next (.pointer (some ⟨r,0,none⟩)) false ty).run P w=.ok (.tuple #[.bool false]) w)\/
 ∃p∈left,∃w',(Instr.next (.pointer (some ⟨r,0,none⟩)) false ty).run P w=.ok (.tuple #[.bool true,kv p.1,vv p.2]) w'/\KpP (·=r) w w'/\
  RngAt w' r b kv vv l (delL left p.1)/\∀w2,Ext w' w2->(Instr.entry (.pointer (some ⟨r,0,none⟩))).run P w2=.ok (.tuple #[kv p.1,vv p.2]) w2:=by
 obtain⟨es,clock,since,seen,h1,h2,hes,hnd,hbn,hbl,hsc,hlf,hlnd,hsub⟩:=h;have hrb:r≠b:=by rintro rfl;rw[h1] at h2;cases h2
 have hll:(leftOf es seen).size=left.length:=by
  have:=congrArg List.length hlf
  simpa using this
 rcases run_next_at (P:=P) w ty r b since clock seen es clock h1 h2 hbl hsc with⟨h0,hrun⟩|⟨en,hen,w1,hw1,hrun⟩
 ·exact .inl ⟨List.eq_nil_of_length_eq_zero (by rw[<-hll];exact h0),hrun⟩
 ·right
  obtain⟨i,hi,hei⟩:=List.getElem_of_mem hen;have hil:i<left.length:=by rw[<-hll];simpa using hi
  have hp:(en.key,en.val)=(kv left[i].1,vv left[i].2):=by
   have:=congrArg (fun z=>z[i]?) hlf;simp only[List.getElem?_map,List.getElem?_eq_getElem hi,List.getElem?_eq_getElem hil,Option.map_some,Option.some.injEq,hei] at this;exact this
  injection hp with hk hv
  have hlt:r<w.heap.size:=(Array.getElem?_eq_some_iff.1 h1).1;have hkp:KpP (·=r) w (setBlock w1 r (.mapIter (some b) since (seen.push en.born) clock)):=by
   rcases hw1 with rfl|rfl
   ·exact kp_setBlock _ _ _
   ·exact(KpP.of_ext (Ext.drew w)).trans (kp_setBlock _ _ _)
  have hr':(setBlock w1 r (.mapIter (some b) since (seen.push en.born) clock)).heap[r]? = some (.mapIter (some b) since (seen.push en.born) clock):=by
   refine heap_setBlock _ _ _ ?_;rcases hw1 with rfl|rfl<;>exact hlt
  have hb':(setBlock w1 r (.mapIter (some b) since (seen.push en.born) clock)).heap[b]? = some (.map es clock):=
   (hkp.block b (Array.getElem?_eq_some_iff.1 h2).1 (fun e=>hrb e.symm)).trans h2
  have hene:en∈es.toList:=by
   unfold leftOf at hen;simp only[Array.toList_filter,List.mem_filter] at hen;exact hen.1
  have hlborn:((leftOf es seen).toList.map (·.born)).Nodup:=by
   unfold leftOf;rw[Array.toList_filter];exact List.Nodup.sublist (List.Sublist.map _ List.filter_sublist) hbn
  refine⟨left[i],List.getElem_mem _,_,by rw[hrun,hk,hv],hkp,?_,?_⟩
  ·refine⟨es,clock,since,_,hr',hb',hes,hnd,hbn,hbl,hsc,?_,?_,?_⟩
   ·unfold delL;rw[leftOf_push,filter_erase (fun q:α×β=>q.1) left hlnd i hil,map_erase,<-hlf,<-map_erase]
    congr 1
    have:=filter_erase (fun e:MapEntry=>e.born) (leftOf es seen).toList hlborn i hi;rw[hei] at this;exact this
   ·exact List.Nodup.sublist (List.Sublist.map _ List.filter_sublist) hlnd
   ·exact List.Sublist.trans List.filter_sublist hsub
  ·intro w2 hw2;have q1:=(hw2.block r (Array.getElem?_eq_some_iff.1 hr').1).trans hr';have q2:=(hw2.block b (Array.getElem?_eq_some_iff.1 hb').1).trans hb';rw[run_entry_at w2 r b since seen es clock en q1 q2 hene hbn,hk,hv]
theorem wpList_next [DecidableEq α]{ops:Array Oper}{rest:List Oper}{o:Oper}{a:Act}{Q:Exit->Act->World->Prop}(hg:o.guard=none)(x:Operand)(hop:o.op=Op.next x false)
 {r:Nat} {left:List (α×β)} (hx:a.eval x=.pointer (some ⟨r,0,none⟩)) (h:RngAt w r b kv vv l left)
 (hend:left=[]->wpList P ops Q rest (a.put o.dst (.tuple #[.bool false])) w)
 (hgo:∀p∈left,∀w',KpP (·=r) w w'->RngAt w' r b kv vv l (delL left p.1)->(∀w2,Ext w' w2->(Instr.entry (.pointer (some ⟨r,0,none⟩))).run P w2=.ok (.tuple #[kv p.1,vv p.2]) w2)->
  wpList P ops Q rest (a.put o.dst (.tuple #[.bool true,kv p.1,vv p.2])) w'):wpList P ops Q (o::rest) a w:=by
 refine wpList_plain hg fun K' hK'=>?_;unfold Oper.wp;rcases h.next (P:=P) o.type with⟨h0,hrun⟩|⟨p,hp,w',hrun,hk,hr,he⟩
 ·simp only[execOp,hop,hx,hrun,Sem.run_bind,Sem.run_pure,Result.andThen_ok];exact hK' _ _ (hend h0)
 ·simp only[execOp,hop,hx,hrun,Sem.run_bind,Sem.run_pure,Result.andThen_ok];exact hK' _ _ (hgo p hp w' hk hr he)
end
theorem putL_new {α β:Type}[DecidableEq α]{l:List (α×β)}{x:α}(h:at? l x=none)(v:β):putL l x v=l++[(x,v)]:=by
 unfold putL;have:l.any (fun p=>p.1 == x)=false:=by
  unfold at? at h;rw[Option.map_eq_none_iff,List.find?_eq_none] at h;rw[List.any_eq_false];exact h
 rw[this];simp
end
section
open Go.RowKit
theorem infoInt:(Tryz.prog.info? 3).map (fun i=>(i.zero,i.size,i.bytes))=some (some (.int .i64 0),1,8):=by kernel_rfl
def around (n m:Int):Int:=(if n<0 then -(n+1) else n) % m
theorem around_bd (n m:Int)(h:1<=m):0<=around n m/\around n m<m:=
 ⟨Int.emod_nonneg _ om,Int.emod_lt_of_pos _ om⟩
theorem around_any (n m:Int)(w:World)(hn:I64 n)(h0:1<=m)(h1:m<=4294967296) :
 Calls Tryz.prog 29 #[.int .i64 n,.int .i64 m] w (RetQ (.int .i64 (around n m)) w):=by
 obtain⟨h2,h3⟩:=hn;by_cases h:n<0
 ·have e:around n m = -(n+1) % m:=by simp[around,h]
  have E:=lh e;clear e;have h4 : -(n+1)>=0:=om;go_enter Tryz.func29,Tryz.ntmps29
  go_wp2
  go_ret
  refine⟨?_,0,rfl⟩;rw[E.out]
  show Ending.returned (Value.int IntKind.i64 _)=_
  rw[<-Int.neg_tmod,Int.tmod_eq_emod_of_nonneg h4]
 ·have e:around n m=n % m:=by simp[around,h]
  have E:=lh e;clear e;go_enter Tryz.func29,Tryz.ntmps29
  go_wp2
  go_ret
  exact⟨by rw[E.out];rfl,0,rfl⟩
def pick (l:List Int)(i:Nat)(m:Int):Int:=if h:i<l.length then around l[i] m else 0
theorem pick_any (A:Option Addr)(c:Nat)(l:List Int)(i:Nat)(m:Int)(w:World)(hl:IL w A c l)(h0:1<=m)(h1:m<=4294967296)(hi:i<=9223372036854775807) :
 Calls Tryz.prog 44 #[.slice A l.length c,.int .i64 i,.int .i64 m] w (RetQ (.int .i64 (pick l i m)) w):=by
 obtain⟨hlen,hcap⟩:=hl.len;by_cases h:i<l.length
 ·obtain⟨b,o,rfl,hc⟩:=hl.get h;have hw:=hl.wf h;have e:pick l i m=around l[i] m:=by simp[pick,h]
  have E:=lh e;clear e;have hlt:(i:Int)<l.length:=om;go_enter Tryz.func44,Tryz.ntmps44
  go_wp2_with (go_at_call 29;refine(around_any _ _ _ hw h0 h1).mono ?_;rintro e w1 ⟨rfl,n,rfl⟩)
  go_ret
  exact⟨by rw[E.out];rfl,n,rfl⟩
 ·have e:pick l i m=0:=by simp[pick,h]
  have E:=lh e;clear e;go_enter Tryz.func44,Tryz.ntmps44
  go_wp2
  go_ret
  exact⟨by rw[E.out];rfl,0,rfl⟩
theorem beq_take_succ (xs ys:List Int)(k:Nat)(h1:k<xs.length)(h2:k<ys.length)(h:xs.take k=ys.take k)(he:xs[k]=ys[k]):xs.take (k+1)=ys.take (k+1):=by
 rw[List.take_succ_eq_append_getElem h1,List.take_succ_eq_append_getElem h2,h,he]
theorem sameInts_any (A B:Option Addr)(c d:Nat)(xs ys:List Int)(w:World)(ha:IL w A c xs)(hb:IL w B d ys) :
 Calls Tryz.prog 22 #[.slice A xs.length c,.slice B ys.length d] w (RetQ (.bool (xs == ys)) w):=by
 obtain⟨a1,a2⟩:=ha.len;obtain⟨b1,b2⟩:=hb.len;by_cases hl:xs.length=ys.length
 ·have hl2:((xs.length:Int) != (ys.length:Int))=false:=by simp[hl]
  have hl':xs.length<=ys.length:=om;have hl'':ys.length<=xs.length:=om;have HL:=lh hl;clear hl;go_enter Tryz.func22,Tryz.ntmps22
  go_wp2
  go_loopw [5] (fun i wr=>∃k:Nat,k<=xs.length/\i=.int .i64 k/\Hid (xs.take k=ys.take k)/\∃n,wr=w.drewN n) (fun i _=>xs.length-(intOf i).toNat)
  case atStart=>exact⟨0,Nat.zero_le _,rfl,rfl,0,rfl⟩
  case round=>
   obtain⟨k,hk,rfl,ht,n,rfl⟩:=hrel;by_cases hlt:k<xs.length
   ·obtain⟨p1,o1,rfl,g1⟩:=ha.get hlt;obtain⟨p2,o2,rfl,g2⟩:=hb.get (show k<ys.length by omega);have hlt2:(k:Int)<xs.length:=om;have hlt3:(k:Int)<ys.length:=om;have hlt4:k<ys.length:=om;by_cases he:xs[k]=ys[k]
    ·have he':(xs[k] != ys[k])=false:=by simp[he]
     have HT:=lh (beq_take_succ xs ys k hlt om ht.out he);clear he
     go_wp2_with (go_quiet (fail))
     go_roundw
     case rel=>exact⟨k+1,om,by go_num,HT.out,_,rfl⟩
     case measure=>simp[intOf];omega
    ·have he':(xs[k] != ys[k])=true:=by simp[he]
     have hne:(xs == ys)=false:=by
      rw[beq_eq_false_iff_ne];rintro rfl;exact he rfl
     have HN:=lh hne;clear he hne
     go_wp2_with (go_quiet (fail))
     go_ret
     exact⟨by rw[HN.out];rfl,_,by rw[World.drewN_drewN]⟩
   ·have hne:(xs == ys)=true:=by
     have h1:=ht.out;rw[List.take_of_length_le om,List.take_of_length_le om] at h1;simp[h1]
    have HN:=lh hne;clear hne
    go_wp2
    go_ret
    exact⟨by rw[HN.out];rfl,_,rfl⟩
 ·have hl2:((xs.length:Int) != (ys.length:Int))=true:=by simp;omega
  have hne:(xs == ys)=false:=by
   rw[beq_eq_false_iff_ne];rintro rfl;exact hl rfl
  have HN:=lh hne;clear hne hl;go_enter Tryz.func22,Tryz.ntmps22
  go_wp2
  go_ret
  exact⟨by rw[HN.out];rfl,0,rfl⟩
def symOk (x:Int):Bool:=decide (0<=x)&&decide (x<=1114111)
def formedN (at_ del:Int)(n:Nat):Bool:=decide (0<=at_)&&decide (at_<=65536)&&decide (0<=del)&&decide (del<=65536)&&decide (n<=65536)
def formed (at_ del:Int)(ins:List Int):Bool:=formedN at_ del ins.length&&ins.all symOk
theorem formed_no {a d:Int}{l:List Int}(h:formedN a d l.length=false):formed a d l=false:=by simp[formed,h]
theorem formedN_t {a d:Int}{n:Nat}(h:formedN a d n=true):0<=a/\a<=65536/\0<=d/\d<=65536/\n<=65536:=by
 simp only[formedN,Bool.and_eq_true,decide_eq_true_eq] at h;omega
theorem formedN_f {a d:Int}{n:Nat}(h:formedN a d n=false):a<0\/65536<a\/d<0\/65536<d\/65536<n:=by
 simp only[formedN,Bool.and_eq_false_iff,decide_eq_false_iff_not] at h;omega
theorem all_take_succ (l:List Int)(k:Nat)(h:k<l.length)(h1:(l.take k).all symOk=true)(h2:symOk l[k]=true):(l.take (k+1)).all symOk=true:=by
 rw[List.take_succ_eq_append_getElem h,List.all_append,h1];simp[h2]
theorem all_bad (l:List Int)(k:Nat)(h:k<l.length)(h2:symOk l[k]=false):l.all symOk=false:=by
 rw[List.all_eq_false];exact⟨l[k],List.getElem_mem h,by simp[h2]⟩
theorem symOk_t {x:Int}(h:symOk x=true):0<=x/\x<=1114111:=by simpa[symOk] using h
theorem formed_ret {a d:Int}{l:List Int}(h:a<0\/65536<a\/d<0\/65536<d\/65536<(l.length:Int)):Ending.returned (.bool false)=.returned (.bool (formed a d l)):=by
 rw[formed_no];simp only[formedN,Bool.and_eq_false_iff,decide_eq_false_iff_not];omega
theorem formed_ret_bad {a d:Int}{l:List Int}(k:Nat)(h:k<l.length)(h2:l[k]<0\/1114111<l[k]):Ending.returned (.bool false)=.returned (.bool (formed a d l)):=by
 have e:symOk l[k]=false:=by simp only[symOk,Bool.and_eq_false_iff,decide_eq_false_iff_not];omega
 simp[formed,all_bad l k h e]
theorem formed_ret_ok {a d:Int}{l:List Int}(h:(((0<=a/\a<=65536)/\0<=d)/\d<=65536)/\(l.length:Int)<=65536)(h2:l.all symOk=true):Ending.returned (.bool true)=.returned (.bool (formed a d l)):=by
 have e:formedN a d l.length=true:=by
  simp only[formedN,Bool.and_eq_true,decide_eq_true_eq];omega
 simp[formed,e,h2]
theorem symOk_mk {x:Int}(h:0<=x)(h':x<=1114111):symOk x=true:=by simp[symOk,h,h']
theorem E2z1 {P:Prop} (h:P:=by
 obtain⟨k,hk,rfl,ht⟩:=hrel;by_cases hlt:k<l.length
 ·obtain⟨p1,o1,rfl,g1⟩:=hl.get hlt;have hb:=World.block_lt_of_cell? _ _ g1;have hlt2:(k:Int)<l.length:=om
  go_wp2
  all_goals first
   | (go_ret;exact⟨formed_ret_bad k hlt om,Ext.alloc _ _⟩)
   | (
    have hs:symOk l[k]=true:=symOk_mk om om
    go_round
    case rel=>exact⟨k+1,om,by go_num,all_take_succ l k hlt ht.out hs⟩
    case measure=>simp[intOf];omega)
 ·go_wp2
  go_ret
  have h1:=ht.out;rw[List.take_of_length_le om] at h1;exact⟨formed_ret_ok ho h1,Ext.alloc _ _⟩):P:=h
theorem wellFormed_any (at_ del:Int)(A:Option Addr)(c:Nat)(l:List Int)(w:World)(hl:IL w A c l) :
 Calls Tryz.prog 80 #[.agg #[.int .i64 at_,.int .i64 del,.slice A l.length c]] w (RetV (.bool (formed at_ del l)) w):=by
 obtain⟨a1,a2⟩:=hl.len;go_enter Tryz.func80,Tryz.ntmps80
 go_wp2
 all_goals try(go_ret;exact⟨formed_ret om,Ext.alloc _ _⟩)
 have ho:(((0<=at_/\at_<=65536)/\0<=del)/\del<=65536)/\(l.length:Int)<=65536:=by assumption
 go_loop [32] (fun i=>∃k:Nat,k<=l.length/\i=.int .i64 k/\Hid ((l.take k).all symOk=true)) (fun i=>l.length-(intOf i).toNat)
 case atStart=>exact⟨0,Nat.zero_le _,rfl,rfl⟩
 case round=>
  exact E2z1
theorem rFormed_any (at_ del:Int)(A:Option Addr)(c:Nat)(l:List Int)(w:World)(hl:IL w A c l) :
 Calls Tryz.prog 141 #[.agg #[.int .i64 at_,.int .i64 del,.slice A l.length c]] w (RetV (.bool (formed at_ del l)) w):=by
 obtain⟨a1,a2⟩:=hl.len;go_enter Tryz.func141,Tryz.ntmps141
 go_wp2
 all_goals try(go_ret;exact⟨formed_ret om,Ext.alloc _ _⟩)
 have ho:(((0<=at_/\at_<=65536)/\0<=del)/\del<=65536)/\(l.length:Int)<=65536:=by assumption
 go_loop [3] (fun i=>∃k:Nat,k<=l.length/\i=.int .i64 k/\Hid ((l.take k).all symOk=true)) (fun i=>l.length-(intOf i).toNat)
 case atStart=>exact⟨0,Nat.zero_le _,rfl,rfl⟩
 case round=>
  exact E2z1
theorem sameEdit_any (a d a' d':Int)(A B:Option Addr)(c c':Nat)(l l':List Int)(w:World)(hl:IL w A c l)(hl':IL w B c' l') :
 Calls Tryz.prog 97 #[.agg #[.int .i64 a,.int .i64 d,.slice A l.length c],.agg #[.int .i64 a',.int .i64 d',.slice B l'.length c']] w (RetV (.bool (decide (a=a'/\d=d'/\l=l'))) w):=by
 have E2:=(Ext.alloc w (.cells #[.int .i64 a,.int .i64 d,.slice A l.length c] 55)).trans (Ext.alloc _ (.cells #[.int .i64 a',.int .i64 d',.slice B l'.length c'] 55));by_cases h1:a=a'
 ·by_cases h2:d=d'
  ·subst h1 h2;have e:decide (a=a/\d=d/\l=l')=(l == l'):=by rw[Bool.eq_iff_iff];simp
   rw[e];clear e;go_enter Tryz.func97,Tryz.ntmps97
   go_wp2_with fail
   refine(sameInts_any _ _ _ _ _ _ _ (hl.ext E2) (hl'.ext E2)).mono ?_;rintro e w1 ⟨rfl,n,rfl⟩
   go_wp2
   go_ret
   exact⟨rfl,E2.trans (Ext.drewN _ _)⟩
  ·subst h1;have e:decide (a=a/\d=d'/\l=l')=false:=by simp[h2]
   rw[e];clear e;have h2':(d == d')=false:=by simp[h2]
   go_enter Tryz.func97,Tryz.ntmps97
   go_wp2
   go_ret
   exact⟨rfl,E2⟩
 ·have e:decide (a=a'/\d=d'/\l=l')=false:=by simp[h1]
  rw[e];clear e;have h2':(a == a')=false:=by simp[h1]
  go_enter Tryz.func97,Tryz.ntmps97
  go_wp2
  go_ret
  exact⟨rfl,E2⟩
def depsOf (ops:Array Oper)(k:Nat):List Nat:=match ops[k]? with
 | some o=>(o.after.toList.filter (fun e=>Region.binds .any e)).map (·.on)
 | none=>[]
def Down (ops:Array Oper)(listed:Array Bool):Prop:=∀k,listed.getD k false=true->∀d∈depsOf ops k,listed.getD d false=true
def ancs (ops:Array Oper):Nat->List Nat->List Nat
 | 0,S=>S
 | f+1,S=>ancs ops f ((List.range ops.size).filter fun d=>S.contains d || S.any fun k=>(depsOf ops k).contains d)
theorem ancs_all {ops:Array Oper}{listed:Array Bool}(hD:Down ops listed):∀(f:Nat) (S:List Nat),(∀d∈S,listed.getD d false=true)->∀d∈ancs ops f S,listed.getD d false=true
 | 0,_,h,d,hd=>h d hd
 | f+1,S,h,d,hd=>ancs_all hD f _ (fun x hx=>by
  obtain⟨_,hx⟩:=List.mem_filter.1 hx;rw[Bool.or_eq_true] at hx;rcases hx with hx|hx
  ·exact h x (by simpa using hx)
  ·obtain⟨k,hk,hkx⟩:=List.any_eq_true.1 hx;exact hD k (h k hk) x (by simpa using hkx)) d hd
theorem deps_ready {ops:Array Oper}{listed:Array Bool}{s:Nat}(h:s∈Region.ready .any ops listed):∀d∈depsOf ops s,listed.getD d false=true:=by
 obtain⟨_,o,ho,hall⟩:=mem_ready.1 h;intro d hd;unfold depsOf at hd;rw[ho] at hd;simp only[List.mem_map,List.mem_filter] at hd;obtain⟨e,⟨he,hb⟩,rfl⟩:=hd;exact hall e (by simpa using he) hb
theorem Down.set {ops:Array Oper}{listed:Array Bool}{i:Nat}(hD:Down ops listed)(hi:i∈Region.ready .any ops listed):Down ops (listed.setIfInBounds i true):=by
 intro k hk d hd;by_cases hki:k=i
 ·subst hki;exact getD_set_true (deps_ready hi d hd)
 ·rw[getD_set_ne false (Ne.symm hki)] at hk;exact getD_set_true (hD k hk d hd)
section
variable (P:Program) (ops:Array Oper) (Q:Exit->Act->World->Prop) (w0:World) (s:Nat) (Fin:Nat->Array Bool->Act->World->Prop)
def wpS:Nat->Array Bool->Act->World->Prop
 | 0,listed,_,_=>Down ops listed->False
 | n+1,listed,a,w=>Down ops listed->Region.ready .any ops listed≠[]/\
  (s∈Region.ready .any ops listed->Region.ready .any ops listed=[s]/\∀w',Ext w w'->Ext w0 w'->Fin (n+1) listed a w')/\
  ∀i∈Region.ready .any ops listed,i≠s->∀w',Ext w w'->Ext w0 w'->wpOp P ops Q i (fun a2 w2=>Ext w' w2/\wpS n (listed.setIfInBounds i true) a2 w2) a w'
end
section
variable {P:Program} {ops:Array Oper} {Q:Exit->Act->World->Prop} {w0:World} {s:Nat} {Fin:Nat->Array Bool->Act->World->Prop}
theorem wpS_ext:∀(n:Nat) {listed:Array Bool} {a:Act} {w w':World},wpS P ops Q w0 s Fin n listed a w->Ext w w'->wpS P ops Q w0 s Fin n listed a w'
 | 0,_,_,_,_,h,_=>h
 | _+1,_,_,_,_,h,k=>fun hD=>⟨(h hD).1,fun hs=>⟨((h hD).2.1 hs).1,fun w2 h2 h3=>((h hD).2.1 hs).2 w2 (k.trans h2) h3⟩,fun i hi his w2 h2 h3=>(h hD).2.2 i hi his w2 (k.trans h2) h3⟩
theorem takeS {i:Nat}{oi:Oper}{v:Value}(hi:ops[i]? = some oi)(hsel:∀(j:Nat) (o:Oper) cs b,ops[j]? = some o->o.op≠.select cs b)(hQ:∀c a w,¬Q (.panic c) a w)
 (f:Nat) (hanc:i∈ancs ops f (depsOf ops s)) :
 ∀(n:Nat) {listed:Array Bool} {a:Act} {w:World},
  (∀j oj,ops[j]? = some oj->j≠i->listed.getD j true=false->(∀e∈oj.after,Region.binds .any e=true->e.on≠i)->oi.apart ops oj=true)->
  i∈Region.ready .any ops listed->YieldsIf P ops (Ext w0) oi v a->wpS P ops Q w0 s Fin n (listed.setIfInBounds i true) (a.put oi.dst v) w->wpS P ops Q w0 s Fin (n+1) listed a w:=by
 intro n;induction n with
 | zero=>
  intro listed a w _ hr _ h hD;exact absurd (hD.set hr) h
 | succ n ih=>
  intro listed a w hfree hr hy h hD;have hns:¬s∈Region.ready .any ops listed:=fun hs=>by
   have h1:=ancs_all hD f _ (deps_ready hs) i hanc;have h2:=(mem_ready.1 hr).1;rcases Nat.lt_or_ge i listed.size with h'|h'
   ·simp[h'] at h1 h2;rw[h1] at h2;cases h2
   ·simp[Array.getElem?_eq_none h'] at h1
  refine⟨fun h0=>(by rw[h0] at hr;cases hr),fun hs=>absurd hs hns,fun j hj hjs w' h1 h2=>?_⟩;by_cases hji:j=i
  ·subst hji;exact hy.wpOp hi h2 ⟨Ext.rfl' _,wpS_ext (n+1) h h1⟩
  ·obtain⟨hjun,oj,hoj,hall⟩:=mem_ready.1 hj;have hnot:∀e∈oj.after,Region.binds .any e=true->e.on≠i:=fun e he hb heq=>by
    have h1:=hall e he hb;have h0:=(mem_ready.1 hr).1;rw[heq] at h1;rcases Nat.lt_or_ge i listed.size with h'|h'
    ·simp[h'] at h0 h1;rw[h0] at h1;cases h1
    ·simp[Array.getElem?_eq_none h'] at h1
   have hap:=hfree j oj hoj hji hjun hnot;have h3:=(h (hD.set hr)).2.2 j (ready_mono hj hji) hjs w' h1 h2;have hQ':∀c a w,Q (.panic c) (a.put oi.dst v) w->Q (.panic c) a w:=fun c a w h=>absurd h (hQ _ _ _);have hfree':∀k ok,ops[k]? = some ok->k≠i->(listed.setIfInBounds j true).getD k true=false->
    (∀e∈ok.after,Region.binds .any e=true->e.on≠i)->oi.apart ops ok=true:=fun k ok hk hki hun hno=>hfree k ok hk hki (unlisted_set hun).2 hno
   refine wpOp_mono (fun a2 w2 h4=>?_) (wpOp_putIf hoj hap (fun cs b=>hsel i oi cs b hi) (fun cs b=>hsel j oj cs b hoj) hQ' hy h3);obtain⟨h5,h6,h7⟩:=h4;refine⟨h6,ih hfree' (ready_mono hr (Ne.symm hji)) h5 ?_⟩;rw[Array.setIfInBounds_comm _ _ hji];exact h7
theorem wpAny_of_S (hFin:∀n listed a w,Fin n listed a w->wpAny P .any ops Q n listed a w):∀(n:Nat) {listed:Array Bool} {a:Act} {w:World},Down ops listed->Ext w0 w->wpS P ops Q w0 s Fin n listed a w->wpAny P .any ops Q n listed a w
 | 0,_,_,_,hD,_,h=>absurd hD h
 | n+1,listed,a,w,hD,hx,h=>by
  obtain⟨h0,h1,h2⟩:=h hD;by_cases hs:s∈Region.ready .any ops listed
  ·exact hFin _ _ _ _ ((h1 hs).2 w (Ext.rfl' _) hx)
  ·refine⟨fun hr=>absurd hr h0,fun i hi=>?_⟩;have his:i≠s:=fun e=>hs (e▸hi);exact wpOp_mono (fun a2 w2 h4=>wpAny_of_S hFin n (hD.set hi) (hx.trans h4.1) h4.2) (h2 i hi his w (Ext.rfl' _) hx)
def Xs (L:List Nat)(s:Nat)(w0:World)(P:Program)(ops:Array Oper)(Q:Exit->Act->World->Prop)(n:Nat)(ls:List Nat)(a:Act)(w:World):Prop:=
 wpS P ops (NoPanic Q) w0 s (fun n listed a w=>∃ls,listed=bits ops.size ls/\Xr L w P ops Q n [] [] [] ls a w) n (bits ops.size ls) a w
theorem Xs.start {id:Nat}{a:Act}{w:World}(L:List Nat)(s:Nat)(hm:P.follows .mixedOrders=true)(h:Xs L s w P ops Q ops.size [] a w):(Code.region id ops true).wp P Q a w:=by
 refine wp_region_noPanic (wp_region_any hm ?_);unfold Xs at h;rw[bits_nil] at h;refine wpAny_of_S ?_ _ ?_ (Ext.drew w) (wpS_ext _ h (Ext.drew w))
 ·rintro n listed a w ⟨ls,rfl,hX⟩;exact wpAny_of_X _ (Kp.refl _ _) (hX rfl)
 ·intro k hk
  exfalso
  by_cases hkn:k<ops.size
  ·simp[hkn] at hk
  ·simp[hkn] at hk
variable {n:Nat} {ls:List Nat} {a:Act} {w:World} {L:List Nat}
def okTakeS (ops:Array Oper)(s:Nat)(ls:List Nat)(i:Nat):Bool:=
 Region.noSelect ops&&Region.free .any ops (bits ops.size ls) i&&(Region.ready .any ops (bits ops.size ls)).contains i&&(ancs ops 8 (depsOf ops s)).contains i
theorem Xs.takeY (i:Nat)(d:Option Tmp){oi:Oper}{v:Value}(hi:ops[i]? = some oi)(hd:oi.dst=d)
 (hok:okTakeS ops s ls i=true) (hy:YieldsIf P ops (Ext w0) oi v a) (h:Xs L s w0 P ops Q n (i::ls) (a.put d v) w):Xs L s w0 P ops Q (n+1) ls a w:=by
 subst hd;simp only[okTakeS,Bool.and_eq_true] at hok;obtain⟨⟨⟨h1,h2⟩,h3⟩,h4⟩:=hok;refine takeS hi (Region.noSelect_spec h1) (NoPanic.never Q) 8 (by simpa using h4) n (Region.free_spec hi h2) (by simpa using h3) hy ?_;rw[bits_set];exact h
theorem Xs.take (i:Nat)(d:Option Tmp){oi:Oper}{v:Value}(hi:ops[i]? = some oi)(hd:oi.dst=d)
 (hok:okTakeS ops s ls i=true) (hw:Region.wanted oi (yielded ops a.tmps)=true)
 (hrun:∀w',Ext w0 w'->(execOp a.eval oi).run P w'=.ok (.value v) w') (h:Xs L s w0 P ops Q n (i::ls) (a.put d v) w):Xs L s w0 P ops Q (n+1) ls a w:=
 Xs.takeY i d hi hd hok (.inl ⟨hw,hrun⟩) h
theorem Xst (i:Nat){d:Option Tmp}{oi:Oper}{v:Value}{b:Act}(h:Xs L s w0 P ops Q n (i::ls) b w)(hi:ops[i]? = some oi:=by rfl)(hd:oi.dst=d:=by(conv=>lhs;whnf);try rfl)(hok:okTakeS ops s ls i=true:=by decide +kernel)(hw:Region.wanted oi (yielded ops a.tmps)=true:=by rfl)
 (hrun:∀w',Ext w0 w'->(execOp a.eval oi).run P w'=.ok (.value v) w':=by intro w' hk;go_simp;(try with_reducible rfl);done)
 (hb:a.put d v=b:=by(try simp only[Act.put,List.setIfInBounds_toArray,List.set_cons_zero,List.set_cons_succ]);(try with_reducible rfl);done):Xs L s w0 P ops Q (n+1) ls a w:=Xs.take i d hi hd hok hw hrun (hb▸h)
theorem Xs.call (i:Nat){o:Oper}(ho:ops[i]? = some o)(hr:(Region.ready .any ops (bits ops.size ls) == [i]&&i != s)=true)(hw:Region.wanted o (yielded ops a.tmps)=true)
 (h:∀w',Ext w w'->Ext w0 w'->∀K,(∀a2 w2,Ext w' w2->Xs L s w0 P ops Q n (i::ls) a2 w2->K a2 w2)->o.wp P a w' K (NoPanic Q)):Xs L s w0 P ops Q (n+1) ls a w:=by
 simp only[Bool.and_eq_true,beq_iff_eq,bne_iff_ne,ne_eq] at hr;obtain⟨hr,his⟩:=hr;intro hD;refine⟨by rw[hr];simp,fun hs=>?_,fun j hj hjs w' x1 x2=>?_⟩
 ·rw[hr] at hs;exact absurd (List.mem_singleton.1 hs).symm his
 ·rw[hr] at hj;obtain rfl:=List.mem_singleton.1 hj;refine step_of ho hw fun K' hK'=>h w' x1 x2 K' fun a2 w2 h3 h5=>hK' a2 w2 ⟨h3,?_⟩;rw[bits_set];exact h5
theorem Xscl (i:Nat){o:Oper}(h:∀w',Ext w w'->Ext w0 w'->∀K,(∀a2 w2,Ext w' w2->Xs L s w0 P ops Q n (i::ls) a2 w2->K a2 w2)->o.wp P a w' K (NoPanic Q))(ho:ops[i]? = some o:=by rfl)(hr:(Region.ready .any ops (bits ops.size ls) == [i]&&i != s)=true:=by decide +kernel)(hw:Region.wanted o (yielded ops a.tmps)=true:=by rfl):Xs L s w0 P ops Q (n+1) ls a w:=Xs.call i ho hr hw h
theorem Xs.stop (hr:Region.ready .any ops (bits ops.size ls)=[s])(h:∀w',Ext w w'->Ext w0 w'->Xr L w' P ops Q (n+1) [] [] [] ls a w'):Xs L s w0 P ops Q (n+1) ls a w:=by
 intro _;refine⟨by rw[hr];simp,fun _=>⟨hr,fun w' x1 x2=>⟨ls,rfl,h w' x1 x2⟩⟩,fun j hj hjs=>?_⟩;rw[hr] at hj;exact absurd (List.mem_singleton.1 hj) hjs
end
theorem Kp.grownL {L:List Nat}{a b c:World}{A:Option Addr}(h:Kp L a b)(k:b.grownBy c (A.map (·.block)))(hp:∀i,A.map (·.block)=some i->i∈L\/a.heap.size<=i):Kp L a c:=
 ⟨k.os.trans h.os,k.tape.trans h.tape,k.output.trans h.output,Nat.le_trans h.size k.size,fun i hi hn=>(k.block i (Nat.lt_of_lt_of_le hi h.size) (fun e=>by
  rcases hp i e.symm with h1|h1
  ·exact hn h1
  ·omega)).trans (h.block i hi hn)⟩
theorem WI_grown {L:List Nat}{I:List (Nat×Nat)}{w w':World}{A:Option Addr}(k:w.grownBy w' (A.map (·.block)))(hp:∀i,A.map (·.block)=some i->i∈L\/InI I i):WI L I w w':=
 ⟨k.os,k.tape,k.output,k.size,fun i hi hn=>k.block i hi (fun e=>hn (hp i e.symm))⟩
section
variable {P:Program} {ops:Array Oper} {Q:Exit->Act->World->Prop} {L:List Nat} {w0:World}
variable {n:Nat} {KD:List (Nat×Nat)} {Z:List Lz} {I:List (Nat×Nat)} {ls:List Nat} {a:Act} {w:World}
theorem Xr.fork2 (i j:Nat){oi oj:Oper}(hoi:ops[i]? = some oi)(hoj:ops[j]? = some oj)
 (hr:(Region.ready .any ops (bits ops.size ls) == [i,j]&&KD.all fun x=>x.1 != i&&x.1 != j)=true) (hwi:Region.wanted oi (yielded ops a.tmps)=true) (hwj:Region.wanted oj (yielded ops a.tmps)=true)
 (h1:∀w',Ext w w'->Kp L w0 w'->∀K,(∀a2 w2,WI L I w' w2->Kp L w0 w2->Xr L w0 P ops Q n KD Z ((w'.heap.size,w2.heap.size)::I) (i::ls) a2 w2->K a2 w2)->oi.wp P a w' K (NoPanic Q))
 (h2:∀w',Ext w w'->Kp L w0 w'->∀K,(∀a2 w2,WI L I w' w2->Kp L w0 w2->Xr L w0 P ops Q n KD Z ((w'.heap.size,w2.heap.size)::I) (j::ls) a2 w2->K a2 w2)->oj.wp P a w' K (NoPanic Q)) :
 Xr L w0 P ops Q (n+1) KD Z I ls a w:=by
 intro hKD;simp only[Bool.and_eq_true,beq_iff_eq] at hr;obtain⟨hr,hZ⟩:=hr;have hZi:(KD.all fun x=>x.1 != i)=true:=by
  rw[List.all_eq_true] at hZ ⊢;intro x hx;have:=hZ x hx;simp only[Bool.and_eq_true] at this;exact this.1
 have hZj:(KD.all fun x=>x.1 != j)=true:=by
  rw[List.all_eq_true] at hZ ⊢;intro x hx;have:=hZ x hx;simp only[Bool.and_eq_true] at this;exact this.2
 refine⟨fun h0=>(by rw[hr] at h0;cases h0),fun k hk w' x1 x2=>?_⟩;rw[hr] at hk
 (try unfold stepX)
 have hk2:k=i\/k=j:=by simpa using hk
 rcases hk2 with rfl|rfl
 ·rw[find_no (kd_find (by rw[hKD];exact hZi))];refine step_of hoi hwi fun K' hK'=>h1 w' x1 x2 K' fun a2 w2 h3 h4 h5=>hK' a2 w2 ⟨h3,h4,?_⟩;rw[bits_set];exact h5 hKD
 ·rw[find_no (kd_find (by rw[hKD];exact hZj))];refine step_of hoj hwj fun K' hK'=>h2 w' x1 x2 K' fun a2 w2 h3 h4 h5=>hK' a2 w2 ⟨h3,h4,?_⟩;rw[bits_set];exact h5 hKD
end
end
section
abbrev St:=List Nat
structure Ins where
 op:Int
 x:Int
 y:Int
 n:Int
 set:List Sp
def addR (G:List Ins):Nat->List Nat×List Nat->Nat->List Nat×List Nat
 | 0,s,_=>s
 | f+1,s,pc=>if pc∈s.2 then s else
  match G[pc]? with
  | none=>s
  | some i=>
   if i.op=2 then addR G f (addR G f (s.1,s.2++[pc]) i.x.toNat) i.y.toNat
   else if i.op=3 then addR G f (s.1,s.2++[pc]) i.x.toNat
   else if i.op=4 then addR G f (s.1,s.2++[pc]) (pc+1)
   else(s.1++[pc],s.2++[pc])
def addP (G:List Ins):Nat->List Nat×List Nat->Nat->(List Nat×List Nat)×Bool
 | 0,s,_=>(s,true)
 | f+1,s,pc=>if pc∈s.2 then(s,true) else
  match G[pc]? with
  | none=>(s,true)
  | some i=>
   if i.op=2 then
    if(addP G f (s.1,s.2++[pc]) i.x.toNat).2=true then addP G f (addP G f (s.1,s.2++[pc]) i.x.toNat).1 i.y.toNat
    else addP G f (s.1,s.2++[pc]) i.x.toNat
   else if i.op=3 then addP G f (s.1,s.2++[pc]) i.x.toNat
   else if i.op=4 then addP G f (s.1,s.2++[pc]) (pc+1)
   else((s.1++[pc],s.2++[pc]),decide (i.op≠0))
def isD (G:List Ins)(pc:Nat):Bool:=match G[pc]? with|some i=>decide (i.op=0)|none=>false
theorem addR_pre (G:List Ins):∀f s pc,∃t,(addR G f s pc).1=s.1++t
 | 0,s,pc=>⟨[],by simp[addR]⟩
 | f+1,s,pc=>by
  unfold addR
  split
  ·exact⟨[],by simp⟩
  ·split
   ·exact⟨[],by simp⟩
   ·rename_i i _
    split
    ·obtain⟨t1,h1⟩:=addR_pre G f (s.1,s.2++[pc]) i.x.toNat;obtain⟨t2,h2⟩:=addR_pre G f (addR G f (s.1,s.2++[pc]) i.x.toNat) i.y.toNat;exact⟨t1++t2,by rw[h2,h1,List.append_assoc]⟩
    ·split
     ·exact addR_pre G f (s.1,s.2++[pc]) i.x.toNat
     ·split
      ·exact addR_pre G f (s.1,s.2++[pc]) (pc+1)
      ·exact⟨[pc],rfl⟩
theorem addP_addR (G:List Ins):∀f s pc,(∀p∈s.1,isD G p=false)->
 ((addP G f s pc).2=true/\addR G f s pc=(addP G f s pc).1/\∀p∈(addP G f s pc).1.1,isD G p=false)\/
 ((addP G f s pc).2=false/\∃u d t,(addP G f s pc).1.1=u++[d]/\(∀p∈u,isD G p=false)/\isD G d=true/\(addR G f s pc).1=u++[d]++t)
 | 0,s,pc,h=>.inl ⟨rfl,rfl,h⟩
 | f+1,s,pc,h=>by
  unfold addP addR;by_cases hm:pc∈s.2
  ·simp only[hm,if_true];exact .inl ⟨trivial,trivial,h⟩
  ·simp only[hm,if_false]
   cases hg:G[pc]? with
   | none=>exact .inl ⟨rfl,rfl,h⟩
   | some i=>
    simp only
    by_cases h2:i.op=2
    ·simp only[h2,if_true];rcases addP_addR G f (s.1,s.2++[pc]) i.x.toNat h with⟨e1,e2,e3⟩|⟨e1,u,d,t,e2,e3,e4,e5⟩
     ·simp only[e1,if_true];rw[e2];exact addP_addR G f _ i.y.toNat e3
     ·simp only[e1];obtain⟨t2,h3⟩:=addR_pre G f (addR G f (s.1,s.2++[pc]) i.x.toNat) i.y.toNat;exact .inr ⟨e1,u,d,t++t2,e2,e3,e4,by rw[h3,e5];simp only[List.append_assoc]⟩
    ·simp only[h2,if_false];by_cases h3:i.op=3
     ·simp only[h3,if_true];exact addP_addR G f (s.1,s.2++[pc]) i.x.toNat h
     ·simp only[h3,if_false];by_cases h4:i.op=4
      ·simp only[h4,if_true];exact addP_addR G f (s.1,s.2++[pc]) (pc+1) h
      ·simp only[h4,if_false];by_cases h0:i.op=0
       ·right
        refine⟨by simp[h0],s.1,pc,[],rfl,h,by simp[isD,hg,h0],by simp⟩
       ·left
        refine⟨by simp[h0],trivial,fun p hp=>?_⟩;rcases List.mem_append.1 hp with hp|hp
        ·exact h p hp
        ·have:p=pc:=by simpa using hp
         subst this;simp[isD,hg,h0]
def listR (G:List Ins)(N:Nat)(from_:List Nat):List Nat×List Nat:=from_.foldl (addR G N) ([],[])
def listP (G:List Ins)(N:Nat):List Nat->List Nat×List Nat->List Nat×List Nat
 | [],s=>s
 | p::r,s=>if(addP G N s p).2=true then listP G N r (addP G N s p).1 else(addP G N s p).1
def cutD (G:List Ins):List Nat->List Nat
 | []=>[]
 | p::r=>if isD G p=true then[p] else p::cutD G r
theorem cutD_none {G:List Ins}:∀{l:List Nat},(∀p∈l,isD G p=false)->cutD G l=l
 | [],_=>rfl
 | p::r,h=>by
  unfold cutD;rw[h p si];simp only[Bool.false_eq_true,if_false];rw[cutD_none (fun q hq=>h q (by simp[hq]))]
theorem cutD_at {G:List Ins}{d:Nat}{t:List Nat}(hd:isD G d=true):∀{u:List Nat},(∀p∈u,isD G p=false)->cutD G (u++[d]++t)=u++[d]
 | [],_=>by simp[cutD,hd]
 | p::r,h=>by
  simp only[List.cons_append];unfold cutD;rw[h p si];simp only[Bool.false_eq_true,if_false];have:=cutD_at (t:=t) hd (u:=r) (fun q hq=>h q (by simp[hq]));simp only[List.append_assoc,List.singleton_append] at this ⊢;rw[this]
theorem foldR_pre (G:List Ins)(N:Nat):∀(r:List Nat) (s:List Nat×List Nat),∃t,(r.foldl (addR G N) s).1=s.1++t
 | [],s=>⟨[],by simp⟩
 | p::r,s=>by
  obtain⟨t1,h1⟩:=addR_pre G N s p;obtain⟨t2,h2⟩:=foldR_pre G N r (addR G N s p);exact⟨t1++t2,by rw[List.foldl_cons,h2,h1,List.append_assoc]⟩
theorem listP_listR (G:List Ins)(N:Nat):∀(r:List Nat) (s:List Nat×List Nat),(∀p∈s.1,isD G p=false)->(listP G N r s).1=cutD G (r.foldl (addR G N) s).1
 | [],s,h=>by simp[listP,cutD_none h]
 | p::r,s,h=>by
  unfold listP;rw[List.foldl_cons];rcases addP_addR G N s p h with⟨e1,e2,e3⟩|⟨e1,u,d,t,e2,e3,e4,e5⟩
  ·simp only[e1,if_true];rw[e2];exact listP_listR G N r _ e3
  ·simp only[e1];obtain⟨t2,h2⟩:=foldR_pre G N r (addR G N s p);rw[h2,e5,List.append_assoc];simp only[Bool.false_eq_true,if_false];rw[e2,cutD_at e4 e3]
def stateG (G:List Ins)(from_:List Nat):List Nat:=cutD G (listR G (G.length+1) from_).1
theorem state_prog (G:List Ins)(from_:List Nat):(listP G (G.length+1) from_ ([],[])).1=stateG G from_:=listP_listR G _ from_ _ si
def grow (L:List St)(s:St):List St:=if s=[]\/s∈L then L else L++[s]
def growAll (ts:List St)(L:List St):List St:=ts.foldl grow L
theorem grow_pre (L:List St)(s:St):∃t,grow L s=L++t:=by
 unfold grow;split
 ·exact⟨[],by simp⟩
 ·exact⟨[s],rfl⟩
theorem growAll_pre:∀(ts:List St) (L:List St),∃t,growAll ts L=L++t
 | [],L=>⟨[],by simp[growAll]⟩
 | s::ts,L=>by
  obtain⟨t1,h1⟩:=grow_pre L s;obtain⟨t2,h2⟩:=growAll_pre ts (grow L s);exact⟨t1++t2,by show growAll ts (grow L s)=_;rw[h2,h1,List.append_assoc]⟩
theorem grow_mem (L:List St)(s:St):s=[]\/s∈grow L s:=by
 unfold grow;split
 ·assumption
 ·exact .inr si
theorem growAll_mem:∀(ts:List St) (L:List St),∀s∈ts,s=[]\/s∈growAll ts L
 | [],_,s,h=>by cases h
 | t::ts,L,s,h=>by
  show s=[]\/s∈growAll ts (grow L t)
  rcases List.mem_cons.1 h with rfl|h
  ·rcases grow_mem L s with h1|h1
   ·exact .inl h1
   ·obtain⟨u,hu⟩:=growAll_pre ts (grow L s);exact .inr (by rw[hu];simp[h1])
  ·exact growAll_mem ts _ s h
def GoodL (L:List St):Prop:=L.Nodup/\[]∉L
theorem grow_good {L:List St}(h:GoodL L)(s:St):GoodL (grow L s):=by
 unfold grow;split
 ·exact h
 ·rename_i hn
  simp only[not_or] at hn;refine⟨?_,?_⟩
  ·rw[List.nodup_append];exact⟨h.1,by simp,fun a ha b hb=>by
    have:b=s:=by simpa using hb
    subst this;rintro rfl;exact hn.2 ha⟩
  ·simp only[List.mem_append,List.mem_singleton,not_or];exact⟨h.2,fun e=>hn.1 e.symm⟩
theorem growAll_good:∀(ts:List St) {L:List St},GoodL L->GoodL (growAll ts L)
 | [],_,h=>h
 | s::ts,_,h=>growAll_good ts (grow_good h s)
def expl (nx:St->List St):Nat->Nat->List St->Option (List St)
 | 0,_,_=>none
 | f+1,i,L=>if 1024<L.length then none else match L[i]? with
  | none=>some L
  | some l=>expl nx f (i+1) (growAll (nx l) L)
theorem expl_over {nx:St->List St}{f i:Nat}{L:List St}(h:1024<L.length):expl nx f i L=none:=by
 cases f with
 | zero=>rfl
 | succ f=>unfold expl;rw[if_pos h]
theorem expl_step {nx:St->List St}{f i:Nat}{L:List St}(h:¬1024<L.length)(hi:i<L.length):expl nx (f+1) i L=expl nx f (i+1) (growAll (nx L[i]) L):=by
 rw[expl,if_neg h,List.getElem?_eq_getElem hi]
theorem expl_end {nx:St->List St}{f i:Nat}{L:List St}(h:¬1024<L.length)(hi:L.length<=i):expl nx (f+1) i L=some L:=by
 rw[expl,if_neg h,List.getElem?_eq_none hi]
def idx (L:List St)(s:St):Int:=if s=[] then -1 else(L.idxOf s:Nat)
theorem idx_pre {L t:List St}{s:St}(h:s=[]\/s∈L):idx (L++t) s=idx L s:=by
 unfold idx
 split
 ·rfl
 ·rename_i hn
  have hm:s∈L:=h.resolve_left hn;rw[List.idxOf_append,if_pos hm]
theorem idx_get {L:List St}(hg:GoodL L){j:Nat}(hj:j<L.length):idx L L[j]=j:=by
 unfold idx;have hne:L[j]≠[]:=fun e=>hg.2 (by rw[<-e];exact List.getElem_mem hj);rw[if_neg hne,hg.1.idxOf_getElem]
theorem idx_bd {L:List St}{s:St}(h:s∈L)(hn:s≠[]):0<=idx L s/\idx L s<L.length/\L[(idx L s).toNat]? = some s:=by
 unfold idx;rw[if_neg hn];have h1:=List.idxOf_lt_length_of_mem h;refine⟨om,om,?_⟩;simp[h1]
inductive Rch {α:Type} (E:α->α->Prop):α->α->Prop
 | one {a b:α}:E a b->Rch E a b
 | cons {a b c:α}:E a b->Rch E b c->Rch E a c
theorem Rch.trans {α:Type}{E:α->α->Prop}{a b c:α}(h:Rch E a b)(k:Rch E b c):Rch E a c:=by
 induction h with
 | one h=>exact .cons h k
 | cons h _ ih=>exact .cons h (ih k)
structure Lead (E:Nat->Nat->Prop)(M M':Nat->Prop)(t:Nat):Prop where
 sub:∀x,M x->M' x
 all:∀p,E p t->M' p
 new:∀x,M' x->¬M x->Rch E x t/\∀p,E p x->M' p
structure LeadI (E:Nat->Nat->Prop)(M M':Nat->Prop)(t:Nat)(P:Nat->Prop):Prop where
 sub:∀x,M x->M' x
 all:∀p,P p->M' p
 new:∀x,M' x->¬M x->Rch E x t/\∀p,E p x->M' p
theorem LeadI.start (E:Nat->Nat->Prop)(M:Nat->Prop)(t:Nat):LeadI E M M t (fun _=>False):=⟨fun _ h=>h,fun _ h=>h.elim,fun x h k=>absurd h k⟩
theorem LeadI.old {E:Nat->Nat->Prop}{M M':Nat->Prop}{t:Nat}{P:Nat->Prop}(h:LeadI E M M' t P){s:Nat}(hs:M' s):LeadI E M M' t (fun p=>P p\/p=s):=
 ⟨h.sub,fun p hp=>hp.elim (h.all p) (fun e=>e▸hs),h.new⟩
theorem LeadI.step {E:Nat->Nat->Prop}{M M' M'':Nat->Prop}{t:Nat}{P:Nat->Prop}(h:LeadI E M M' t P){s:Nat}(hE:E s t)(k:Lead E (fun x=>M' x\/x=s) M'' s):LeadI E M M'' t (fun p=>P p\/p=s):=by
 refine⟨fun x hx=>k.sub x (.inl (h.sub x hx)),fun p hp=>k.sub p (hp.imp (h.all p) id),fun x hx hM=>?_⟩;by_cases h1:M' x
 ·obtain⟨h2,h3⟩:=h.new x h1 hM;exact⟨h2,fun p hp=>k.sub p (.inl (h3 p hp))⟩
 ·by_cases h4:x=s
  ·subst h4;exact⟨.one hE,k.all⟩
  ·obtain⟨h5,h6⟩:=k.new x hx (by rintro(h7|h7);exact h1 h7;exact h4 h7);exact⟨h5.trans (.one hE),h6⟩
theorem LeadI.done {E:Nat->Nat->Prop}{M M':Nat->Prop}{t:Nat}{P:Nat->Prop}(h:LeadI E M M' t P)(hP:∀p,E p t->P p):Lead E M M' t:=⟨h.sub,fun p hp=>h.all p (hP p hp),h.new⟩
structure FindI (E:Nat->Nat->Prop)(M:Nat->Prop)(T:Nat->Prop):Prop where
 why:∀x,M x->∃t,T t/\Rch E x t
 clo:∀x,M x->∀p,E p x->M p
 all:∀t,T t->∀p,E p t->M p
theorem FindI.step {E:Nat->Nat->Prop}{M M':Nat->Prop}{T:Nat->Prop}(h:FindI E M T){t:Nat}(k:Lead E M M' t):FindI E M' (fun x=>T x\/x=t):=by
 refine⟨fun x hx=>?_,fun x hx p hp=>?_,fun u hu p hp=>?_⟩
 ·by_cases h1:M x
  ·obtain⟨u,h2,h3⟩:=h.why x h1;exact⟨u,.inl h2,h3⟩
  ·exact⟨t,.inr rfl,(k.new x hx h1).1⟩
 ·by_cases h1:M x
  ·exact k.sub p (h.clo x h1 p hp)
  ·exact(k.new x hx h1).2 p hp
 ·rcases hu with hu|rfl
  ·exact k.sub p (h.all u hu p hp)
  ·exact k.all p hp
theorem FindI.law {E:Nat->Nat->Prop}{M:Nat->Prop}{T:Nat->Prop}(h:FindI E M T)(x:Nat):M x<->∃t,T t/\Rch E x t:=by
 refine⟨h.why x,?_⟩;rintro⟨t,ht,hr⟩;induction hr with
 | one he=>exact h.all _ ht _ he
 | cons he _ ih=>exact h.clo _ (ih ht) _ he
def Stp (f:St->Int->St)(cs:List Int)(a b:St):Prop:=b≠[]/\∃c∈cs,f a c=b
def Opn (f:St->Int->St)(cs:List Int)(dn:St->Bool)(s:St):Prop:=∃t,Rch (Stp f cs) s t/\dn t=true
section
variable {f:St->Int->St} {cs:List Int} {dn:St->Bool}
end
def StpI (nx:Nat->Nat->Int)(m:Nat)(p t:Nat):Prop:=∃k,k<m/\nx p k=(t:Int)
theorem opn_idx {f:St->Int->St}{cs:List Int}{dn:St->Bool}{R:List St}(hg:GoodL R)(hc:∀l∈R,∀c∈cs,f l c=[]\/f l c∈R)
 {nx:Nat->Nat->Int} (hnx:∀(p:Nat) (hp:p<R.length) (k:Nat) (hk:k<cs.length),nx p k=idx R (f R[p] cs[k])) {E:Nat->Nat->Prop} (hE:∀p t,E p t<->p<R.length/\StpI nx cs.length p t)
 {j:Nat} (hj:j<R.length):(∃t,(∃ht:t<R.length,dn R[t]=true)/\Rch E j t)<->Opn f cs dn R[j]:=by
 have h1:∀p t,E p t->∃(hp:p<R.length) (ht:t<R.length),Stp f cs R[p] R[t]:=by
  intro p t h;obtain⟨hp,k,hk,h⟩:=(hE p t).1 h;rw[hnx p hp k hk] at h;have hm:=hc R[p] (List.getElem_mem hp) cs[k] (List.getElem_mem hk);by_cases hn:f R[p] cs[k]=[]
  ·rw[hn] at h;unfold idx at h;rw[if_pos rfl] at h;omega
  ·obtain⟨h2,h3,h4⟩:=idx_bd (hm.resolve_left hn) hn;rw[h] at h3 h4;have ht:t<R.length:=om;have e:((t:Int)).toNat=t:=om;rw[e] at h4;obtain⟨_,h5⟩:=List.getElem?_eq_some_iff.1 h4;exact⟨hp,ht,by rw[h5];exact hn,cs[k],List.getElem_mem hk,h5.symm⟩
 constructor
 ·rintro⟨t,⟨ht,hd⟩,hr⟩;have:∀{a b:Nat},Rch E a b->∃(ha:a<R.length) (hb:b<R.length),Rch (Stp f cs) R[a] R[b]:=by
   intro a b h;induction h with
   | one h=>obtain⟨hp,ht,h⟩:=h1 _ _ h;exact⟨hp,ht,.one h⟩
   | cons h _ ih=>
    obtain⟨hp,ht,h⟩:=h1 _ _ h;obtain⟨_,hb,k⟩:=ih;exact⟨hp,hb,.cons h k⟩
  obtain⟨_,_,h⟩:=this hr;exact⟨R[t],h,hd⟩
 ·rintro⟨b,hr,hd⟩;have:∀{a b:St},Rch (Stp f cs) a b->∀(p:Nat) (hp:p<R.length),R[p]=a->∃(t:Nat) (ht:t<R.length),R[t]=b/\Rch E p t:=by
   have step:∀{a b:St},Stp f cs a b->∀(p:Nat) (hp:p<R.length),R[p]=a->∃(t:Nat) (ht:t<R.length),R[t]=b/\E p t:=by
    rintro a b ⟨hn,c,hcm,rfl⟩ p hp rfl;obtain⟨k,hk,rfl⟩:=List.mem_iff_getElem.1 hcm;obtain⟨t,ht,he⟩:=List.mem_iff_getElem.1 ((hc R[p] (List.getElem_mem hp) cs[k] (List.getElem_mem hk)).resolve_left hn);exact⟨t,ht,he,(hE p t).2 ⟨hp,k,hk,by rw[hnx p hp k hk,<-he,idx_get hg]⟩⟩
   intro a b h;induction h with
   | one h=>intro p hp e;obtain⟨t,ht,h1,h2⟩:=step h p hp e;exact⟨t,ht,h1,.one h2⟩
   | cons h _ ih=>
    intro p hp e;obtain⟨t,ht,h1,h2⟩:=step h p hp e;obtain⟨u,hu,h3,h4⟩:=ih t ht h1;exact⟨u,hu,h3,.cons h2 h4⟩
  obtain⟨t,ht,h1,h2⟩:=this hr j hj rfl;subst h1;exact⟨t,⟨ht,hd⟩,h2⟩
def runM (nx:Int->Nat->Int)(dn:Int->Bool):List Nat->Nat->Int->Int->Int×Int
 | [],_,s,last=>(s,last)
 | c::r,k,s,last=>if s = -1 then(s,last) else runM nx dn r (k+1) (nx s c) (if nx s c≠-1/\dn (nx s c)=true then((k+1:Nat):Int) else last)
section
variable (nx:Int->Nat->Int) (dn:Int->Bool)
theorem runM_dead (l:List Nat)(k:Nat)(last:Int):runM nx dn l k (-1) last=(-1,last):=by
 cases l with
 | nil=>rfl
 | cons c r=>unfold runM;rw[if_pos rfl]
theorem runM_append:∀(a b:List Nat) (k:Nat) (s last:Int),
 runM nx dn (a++b) k s last=runM nx dn b (k+a.length) (runM nx dn a k s last).1 (runM nx dn a k s last).2
 | [],b,k,s,last=>by simp[runM]
 | c::r,b,k,s,last=>by
  rw[List.cons_append];by_cases h:s = -1
  ·subst h;rw[runM_dead,runM_dead,runM_dead]
  ·rw[runM,if_neg h,runM_append r b,runM,if_neg h,List.length_cons];have e:k+1+r.length=k+(r.length+1):=om;rw[e]
theorem runM_shift:∀(l:List Nat) (k j:Nat) (s a b L:Int),b=(if a = -1 then L else k+a)->
 runM nx dn l (k+j) s b=((runM nx dn l j s a).1,if(runM nx dn l j s a).2 = -1 then L else k+(runM nx dn l j s a).2)
 | [],k,j,s,a,b,L,h=>by
  subst h
  rfl
 | c::r,k,j,s,a,b,L,h=>by
  by_cases hs:s = -1
  ·subst hs;rw[runM_dead,runM_dead,h]
  ·rw[runM,if_neg hs,runM,if_neg hs];have e:k+j+1=k+(j+1):=om;rw[e];refine runM_shift r k (j+1) (nx s c) _ _ L ?_;by_cases h2:nx s c≠-1/\dn (nx s c)=true
   ·rw[if_pos h2,if_pos h2,if_neg om];omega
   ·rw[if_neg h2,if_neg h2,h]
theorem runM_last:∀(l:List Nat) (k:Nat) (s a:Int),(runM nx dn l k s a).2=a\/((k:Int)<(runM nx dn l k s a).2/\(runM nx dn l k s a).2<=(k+l.length:Nat))
 | [],_,_,_=>.inl rfl
 | c::r,k,s,a=>by
  by_cases hs:s = -1
  ·subst hs;rw[runM_dead];exact .inl rfl
  ·rw[runM,if_neg hs];rcases runM_last r (k+1) (nx s c) (if nx s c≠-1/\dn (nx s c)=true then((k+1:Nat):Int) else a) with h|h
   ·rw[h];by_cases h2:nx s c≠-1/\dn (nx s c)=true
    ·rw[if_pos h2,List.length_cons];right;omega
    ·rw[if_neg h2];exact .inl rfl
   ·right;rw[List.length_cons];omega
def toS (cl:List Nat)(i:Int):Int×Int:=runM nx dn cl 0 i (-1)
def iniL (first:Int)(k:Nat):Int:=if first≠-1/\dn first=true then(k:Int) else -1
def enS (first:Int)(cl:List Nat)(k:Nat):Int×Int:=runM nx dn (cl.drop k) k first (iniL dn first k)
def aftS (la:Nat)(to_:Int->Int×Int)(p:Int×Int):Int×Int:=
 if p.1 = -1 then(-1,p.2) else((to_ p.1).1,if(to_ p.1).2 = -1 then p.2 else la+(to_ p.1).2)
theorem aft_run (b:List Nat)(la:Nat)(p:Int×Int):aftS la (toS nx dn b) p=runM nx dn b la p.1 p.2:=by
 unfold aftS toS;by_cases h:p.1 = -1
 ·rw[if_pos h,h,runM_dead]
 ·rw[if_neg h];have:=runM_shift nx dn b la 0 p.1 (-1) p.2 p.2 si;rw[Nat.add_zero] at this;rw[this]
theorem toS_join (a b:List Nat)(i:Int):toS nx dn (a++b) i=aftS a.length (toS nx dn b) (toS nx dn a i):=by
 rw[aft_run];unfold toS;rw[runM_append,Nat.zero_add]
theorem enS_join_left (first:Int)(a b:List Nat){k:Nat}(h:k<=a.length):enS nx dn first (a++b) k=aftS a.length (toS nx dn b) (enS nx dn first a k):=by
 rw[aft_run];unfold enS;rw[List.drop_append_of_le_length h,runM_append];have e:k+(a.drop k).length=a.length:=by rw[List.length_drop];omega
 rw[e]
theorem enS_join_right (first:Int)(a b:List Nat){j:Nat}:enS nx dn first (a++b) (a.length+j) =
 ((enS nx dn first b j).1,if(enS nx dn first b j).2 = -1 then -1 else a.length+(enS nx dn first b j).2):=by
 unfold enS;have e:(a++b).drop (a.length+j)=b.drop j:=by simp
 rw[e];refine runM_shift nx dn (b.drop j) a.length j first (iniL dn first j) _ (-1) ?_;unfold iniL;by_cases h:first≠-1/\dn first=true
 ·rw[if_pos h,if_pos h,if_neg om];omega
 ·rw[if_neg h,if_neg h,if_pos rfl]
end
end
def endsL (c:List Sp):List Int:=c.flatMap (fun s=>[s.1,s.2])
theorem endsL_has {c:List Sp}(h:∀s∈c,s.1<=s.2){x:Int}(hx:x∈endsL c):has c x=true:=by
 unfold endsL at hx;obtain⟨s,hs,hx⟩:=List.mem_flatMap.1 hx;have:=h s hs;rw[has_iff];simp only[List.mem_cons,List.not_mem_nil,or_false] at hx;rcases hx with rfl|rfl
 ·exact⟨s,hs,Int.le_refl _,this⟩
 ·exact⟨s,hs,this,Int.le_refl _⟩
def symV (runes:Bool)(x:Int):Bool:=if runes=true then decide (0<=x/\x<55296) || decide (57343<x/\x<=1114111) else decide (0<=x/\x<=255)
def topV (runes:Bool):Int:=if runes=true then 1114111 else 255
theorem endsL_any {runes:Bool}{c:List Sp}(hc:∀s∈c,0<=s.1/\s.2<=topV runes){x:Int}(hx:has c x=true)(hv:symV runes x=true):∃y∈endsL c,symV runes y=true:=by
 obtain⟨s,hs,h1,h2⟩:=has_iff.1 hx;have hb:=hc s hs;have m1:s.1∈endsL c:=List.mem_flatMap.2 ⟨s,hs,by simp⟩;have m2:s.2∈endsL c:=List.mem_flatMap.2 ⟨s,hs,by simp⟩;unfold symV topV at *;cases runes
 ·simp only[Bool.false_eq_true,if_false,decide_eq_true_eq] at *;exact⟨s.1,m1,om⟩
 ·simp only[if_true,Bool.or_eq_true,decide_eq_true_eq] at *;by_cases h3:s.1<55296
  ·exact⟨s.1,m1,om⟩
  ·exact⟨s.2,m2,om⟩
def keepC (runes:Bool)(cs:List (List Sp)):List (List Sp):=cs.filter (fun c=>(endsL c).any (symV runes))
def smpP (runes:Bool)(c:List Sp):Int:=((endsL c).find? (symV runes)).getD 0
theorem smpP_in {runes:Bool}{c:List Sp}(h:(endsL c).any (symV runes)=true):smpP runes c∈endsL c/\symV runes (smpP runes c)=true:=by
 unfold smpP
 cases hf:(endsL c).find? (symV runes) with
 | none=>
  obtain⟨y,hy,hv⟩:=List.any_eq_true.1 h;have:=List.find?_eq_none.1 hf y hy;rw[hv] at this;simp at this
 | some y=>exact⟨List.mem_of_find?_eq_some hf,List.find?_some hf⟩
def strs (kept:List (List Sp)):List (Int×Nat):=kept.zipIdx.flatMap (fun p=>p.1.map (fun s=>(s.1,p.2)))
theorem strs_mem {kept:List (List Sp)}{p:Int×Nat}:p∈strs kept<->∃hk:p.2<kept.length,∃s∈kept[p.2],p.1=s.1:=by
 unfold strs;rw[List.mem_flatMap];constructor
 ·rintro⟨q,hq,hp⟩;obtain⟨s,hs,rfl⟩:=List.mem_map.1 hp;obtain⟨h1,h2,h3⟩:=List.mem_zipIdx hq;simp only[Nat.sub_zero] at h3;refine⟨om,s,?_,rfl⟩
  rw[<-h3];exact hs
 ·rintro⟨hk,s,hs,h1⟩;refine⟨(kept[p.2],p.2),?_,?_⟩
  ·rw[List.mem_zipIdx_iff_getElem?];simp[hk]
  ·exact List.mem_map.2 ⟨s,hs,by rw[<-h1]⟩
theorem stretch_law {kept:List (List Sp)}(hle:∀c∈kept,∀s∈c,s.1<=s.2)
 (hdis:∀x k k' (hk:k<kept.length) (hk':k'<kept.length),has kept[k] x=true->has kept[k'] x=true->k=k')
 {st:List (Int×Nat)} (hp:(strs kept).Perm st) (hs:st.Pairwise (fun a b=>a.1<=b.1)) {x:Int} {k:Nat} (hk:k<kept.length) (hx:has kept[k] x=true)
 {i:Nat} (hi:i<=st.length) (h1:∀j (hj:j<st.length),j<i->st[j].1<=x) (h2:∀(hj:i<st.length),x<st[i].1):∃h0:i-1<st.length,0<i/\st[i-1].2=k:=by
 obtain⟨s,hsm,h3,h4⟩:=has_iff.1 hx;have hm:(s.1,k)∈st:=hp.mem_iff.1 (strs_mem.2 ⟨hk,s,hsm,rfl⟩);obtain⟨j',hj',he⟩:=List.mem_iff_getElem.1 hm;have hsrt:=List.pairwise_iff_getElem.1 hs;have hj'i:j'<i:=by
  rcases Nat.lt_or_ge j' i with h|h
  ·exact h
  ·have hi2:i<st.length:=om;have h5:=h2 hi2;rcases Nat.lt_or_ge i j' with h6|h6
   ·have:=hsrt i j' hi2 hj' h6;rw[he] at this;simp only at this;omega
   ·have:i=j':=om;subst this;rw[he] at h5;simp only at h5;omega
 have h0:i-1<st.length:=om;refine⟨h0,om,?_⟩;have h5:=h1 (i-1) h0 om;have h6:s.1<=st[i-1].1:=by
  rcases Nat.lt_or_ge j' (i-1) with h|h
  ·have:=hsrt j' (i-1) hj' h0 h;rw[he] at this;exact this
  ·have:j'=i-1:=om;subst this;rw[he];exact Int.le_refl _
 obtain⟨hk2,s2,hs2,h7⟩:=strs_mem.1 (hp.mem_iff.2 (List.getElem_mem h0));have h8:=hle _ (List.getElem_mem hk2) s2 hs2;exact hdis st[i-1].1 _ _ hk2 hk (has_iff.2 ⟨s2,hs2,om,om⟩) (has_iff.2 ⟨s,hsm,h6,om⟩)
end Go.Proofs.YtmpcoifnpflapaaGreat
