/- Texts of this proof: D2 D6 T1 D4 E11 E12 E13 D7 D8 T2 T3 T5 E19 T7 W2 W3 W7 W8 W9 K14. -/
import Derived.Test.YtmpcoifnpflapaaGreatER10
import Derived.Test.YtmpcoifnpflapaaGreatER11
set_option linter.all false
set_option maxRecDepth 100000
set_option maxHeartbeats 8000000
namespace Go.Proofs.YtmpcoifnpflapaaGreat
section
open Go.RowKit
attribute [local go_sem ↓] Go.wp_at_zero Go.wp_at_succ
structure Oe where
 e:Ed
 A:Option Addr
 c:Nat
structure Ds where
 ap:List (Int×Int×Int)
 nx:List (Int×Int)
 hd:List ((Int×Int)×Hv)
def noRdy (s:Ds):Prop:=∀q∈s.hd,¬isRdy s.nx s.ap.length q
def movedOf (s:Ds)(h:Hv):Int×Int:=overAll (h.it.e.at_,h.it.e.del) (s.ap.drop h.it.base.toNat)
def stepOf (s:Ds)(p:(Int×Int)×Hv):Ds:=
 ⟨s.ap++[((movedOf s p.2).1,(movedOf s p.2).2,(p.2.it.e.ins.length:Int))],putL s.nx p.1.1 (nxOf s.nx p.1.1+1),delL s.hd p.1⟩
def outOf (s:Ds)(p:(Int×Int)×Hv):Oe:=⟨⟨(movedOf s p.2).1,(movedOf s p.2).2,p.2.it.e.ins⟩,p.2.A,p.2.c⟩
inductive Steps:Ds->List Oe->Ds->Prop
 | refl (s:Ds):Steps s [] s
 | snoc {s s1:Ds} {out:List Oe} (p:(Int×Int)×Hv) (h:Steps s out s1) (hp:p∈s1.hd) (hr:isRdy s1.nx s1.ap.length p) (hmin:∀q∈s1.hd,isRdy s1.nx s1.ap.length q->p.1.1<=q.1.1):Steps s (out++[outOf s1 p]) (stepOf s1 p)
def ItOk (x:It):Prop:=0<=x.client/\x.client<=1023/\0<=x.number/\x.number<=4095/\0<=x.base/\x.base<=4095/\formed x.e.at_ x.e.del x.e.ins=true
theorem new_any (w:World):Calls Tryz.prog 17 #[] w (fun e w'=>∃g m1 m2,e=.returned (.pointer (some ⟨g,0,none⟩))/\Ext w w'/\DeskAt w' w.heap.size g m1 m2 none 0 [] [] []/\w.heap.size<=m1/\w.heap.size<=m2/\w.heap.size<=g):=by
 have hmm:=@run_makeMap Tryz.prog;go_enter Tryz.func17,Tryz.ntmps17
 go_wp2
 go_ret
 have x1:=Ext.alloc w (.map #[] 0);have x2:=Ext.alloc (w.alloc (.map #[] 0)) (.map #[] 0);have x3:=Ext.alloc ((w.alloc (.map #[] 0)).alloc (.map #[] 0)) (.cells #[.slice none 0 0,.map (some w.heap.size),.map (some (w.heap.size+1))] 171);have hb:=Blk.new ((w.alloc (.map #[] 0)).alloc (.map #[] 0)) 171 #[.slice none 0 0,.map (some w.heap.size),.map (some (w.heap.size+1))];refine⟨w.heap.size+1+1,w.heap.size,w.heap.size+1,rfl,(x1.trans x2).trans x3,⟨by simpa using hb,OwnS.nil _ _ _ _,((MapAt.made w _ _).ext x2).ext x3,?_,by simp[Off],om,by simp,om⟩,om,om,om⟩;have:=(MapAt.made (w.alloc (.map #[] 0)) keyV hvV).ext x3
 simpa using this
end
section
open Go.RowKit
def cntC (l:List It)(c:Int):Nat:=(l.filter (fun x=>x.client == c)).length
def exOf (x:It):Int×Int×Int:=(x.e.at_,x.e.del,(x.e.ins.length:Int))
theorem cntC_succ (l:List It)(c:Int)(a:Nat)(h:a<l.length):cntC (l.take (a+1)) c=cntC (l.take a) c+if l[a].client=c then 1 else 0:=by
 unfold cntC;rw[List.take_succ_eq_append_getElem h,List.filter_append,List.length_append];by_cases hc:l[a].client=c<;>simp[List.filter_cons,hc]
structure OnceI (its:List It)(p:Nat)(s:Ds):Prop where
 le:p<=its.length
 ap:s.ap=(its.take p).map exOf
 nx:∀c,nxOf s.nx c=cntC (its.take p) c
 hd:∀q∈s.hd,∃j,∃h:j<its.length,p<=j/\q.1=(its[j].client,its[j].number)/\q.2.it=its[j]
theorem at_putL {α β:Type}[DecidableEq α](l:List (α×β))(x y:α)(v:β):at? (putL l x v) y=if y=x then some v else at? l y:=by
 unfold putL at?;by_cases ha:l.any (fun p=>p.1 == x)=true
 ·rw[if_pos ha];induction l with
  | nil=>simp at ha
  | cons p l ih=>
   by_cases hp:p.1=x
   ·by_cases hy:y=x
    ·subst hy;simp[hp]
    ·have hxy:¬x=y:=fun e=>hy e.symm;have hpy:¬p.1=y:=fun e=>hxy (hp▸e);simp only[List.map_cons,hp,if_true,List.find?_cons,hy,if_false];have e1:(x == y)=false:=by simp[hxy]
     rw[e1];by_cases ha2:l.any (fun p=>p.1 == x)=true
     ·have:=ih ha2;simp only[hy,if_false] at this;exact this
     ·have hall:∀q∈l,q.1≠x:=fun q hq e=>ha2 (List.any_eq_true.2 ⟨q,hq,by simp[e]⟩);have:l.map (fun p=>if p.1=x then(x,v) else p)=l:=by
       conv=>rhs;rw[<-List.map_id l]
       exact List.map_congr_left (fun q hq=>by simp[hall q hq])
      rw[this]
   ·have ha2:l.any (fun p=>p.1 == x)=true:=by simpa[hp] using ha
    have:=ih ha2;simp only[List.map_cons,hp,if_false,List.find?_cons];by_cases hpy:p.1=y
    ·have hyx:¬y=x:=fun e=>hp (hpy.trans e);simp[hpy,hyx]
    ·have e1:(p.1 == y)=false:=by simp[hpy]
     rw[e1];exact this
 ·rw[if_neg ha];have hall:∀q∈l,q.1≠x:=fun q hq e=>ha (List.any_eq_true.2 ⟨q,hq,by simp[e]⟩);rw[List.find?_append];by_cases hy:y=x
  ·subst hy;have:l.find? (fun p=>p.1 == y)=none:=List.find?_eq_none.2 (fun q hq=>by simp[hall q hq]);simp[this]
  ·have hxy:¬x=y:=fun e=>hy e.symm;simp[hy,hxy]
theorem nxOf_put (nx:List (Int×Int))(c d:Int)(v:Int):nxOf (putL nx c v) d=if d=c then v else nxOf nx d:=by
 unfold nxOf;rw[at_putL];split<;>rfl
def extE (e:Ed):Int×Int×Int:=(e.at_,e.del,(e.ins.length:Int))
theorem overAll_moved:∀(l:List Ed) (e:Ed),overAll (e.at_,e.del) (l.map extE)=((l.foldl movedE e).at_,(l.foldl movedE e).del)/\(l.foldl movedE e).ins=e.ins
 | [],_=>⟨rfl,rfl⟩
 | o::l,e=>by
  have h:=overAll_moved l (movedE e o);exact⟨h.1,h.2.trans rfl⟩
theorem getD_lt {α:Type}(l m:List α)(i:Nat)(d:α)(h:i<l.length):(l++m).getD i d=l.getD i d:=by
 simp only[List.getD_eq_getElem?_getD,List.getElem?_append_left h]
theorem getD_eq {α:Type}(l:List α)(x d:α):(l++[x]).getD l.length d=x:=by
 simp[List.getD_eq_getElem?_getD]
theorem getD_get {α:Type}(l:List α)(i:Nat)(d:α)(h:i<l.length):l.getD i d=l[i]:=by
 simp[List.getD_eq_getElem?_getD,List.getElem?_eq_getElem h]
def it0:It:=⟨0,0,0,⟨0,0,[]⟩⟩
def ed0:Ed:=⟨0,0,[]⟩
structure Mk (its:List It)(es:List Ed)(txs:List (List Int)):Prop where
 le:es.length=its.length
 lt:txs.length=its.length+1
 sz:∀i,i<=its.length->(txs.getD i []).length<=40+3*i
 sm:∀i,i<=its.length->∀x∈txs.getD i [],0<=x/\x<=200
 bs:∀i,i<its.length->∃b:Nat,(its.getD i it0).base=b/\b<=i/\EdOf (txs.getD b []).length (its.getD i it0).e/\es.getD i ed0=((es.take i).drop b).foldl movedE (its.getD i it0).e
 cl:∀i,i<its.length->0<=(its.getD i it0).client/\(its.getD i it0).client<3/\(its.getD i it0).number=cntC (its.take i) (its.getD i it0).client/\(its.getD i it0).e.ins.length<=3
 ed:∀i,i<its.length->EdOf (txs.getD i []).length (es.getD i ed0)
 nx:∀i,i<its.length->txs.getD (i+1) []=spliceE (txs.getD i []) (es.getD i ed0)
 iv:∀i,i<its.length->∀y∈(its.getD i it0).e.ins,0<=y/\y<=200
theorem Mk.start {t:List Int}(hl:t.length<=40)(hs:∀x∈t,0<=x/\x<=200):Mk [] [] [t]:=
 ⟨rfl,rfl,fun i hi=>by
  have:i=0:=by simpa using hi
  subst this;simpa using hl,fun i hi=>by
  have:i=0:=by simpa using hi
  subst this;simpa using hs,fun i hi=>by simp at hi,fun i hi=>by simp at hi,fun i hi=>by simp at hi,fun i hi=>by simp at hi,fun i hi=>by simp at hi⟩
theorem Mk.moved {its:List It}{es:List Ed}{txs:List (List Int)}(h:Mk its es txs){b:Nat}{f:Ed}(hf:EdOf (txs.getD b []).length f):∀k,b+k<=its.length->EdOf (txs.getD (b+k) []).length (((es.take (b+k)).drop b).foldl movedE f)
 | 0,hk=>by
  have:((es.take (b+0)).drop b)=[]:=List.drop_eq_nil_of_le (by rw[List.length_take];omega);rw[this];exact hf
 | k+1,hk=>by
  have ih:=h.moved hf k om;have hlt:b+k<es.length:=by rw[h.le];omega
  have e1:(es.take (b+(k+1))).drop b=(es.take (b+k)).drop b++[es.getD (b+k) ed0]:=by
   rw[<-Nat.add_assoc,List.take_succ_eq_append_getElem hlt,List.drop_append_of_le_length (by rw[List.length_take];omega),getD_get _ _ _ hlt]
  rw[e1,List.foldl_append];have h2:=h.ed (b+k) om;have h3:=h.nx (b+k) om;refine moved_of ih h2 ?_
  rw[<-Nat.add_assoc,h3];exact spliceE_len h2
theorem cntC_take {l m:List It}{i:Nat}(h:i<=l.length)(c:Int):cntC ((l++m).take i) c=cntC (l.take i) c:=by
 rw[List.take_append_of_le_length h]
theorem Mk.snoc {its:List It}{es:List Ed}{txs:List (List Int)}(h:Mk its es txs){x:It}{b:Nat}(hb:x.base=b)(hbl:b<=its.length)(hx:EdOf (txs.getD b []).length x.e)(hxs:∀y∈x.e.ins,0<=y/\y<=200)
 (hc:0<=x.client/\x.client<3) (hn:x.number=cntC its x.client) (h3i:x.e.ins.length<=3) :
 Mk (its++[x]) (es++[(es.drop b).foldl movedE x.e]) (txs++[spliceE (txs.getD its.length []) ((es.drop b).foldl movedE x.e)])/\EdOf (txs.getD its.length []).length ((es.drop b).foldl movedE x.e):=by
 have hm:=h.moved hx (its.length-b) om;have e1:b+(its.length-b)=its.length:=om;rw[e1,List.take_of_length_le (by rw[h.le];exact Nat.le_refl _)] at hm;have hins:=(overAll_moved (es.drop b) x.e).2;generalize he':(es.drop b).foldl movedE x.e=e' at *;have hsl:=spliceE_len hm;have hlt:=h.lt;have hle:=h.le;have hti:∀i,i<=its.length->(txs++[spliceE (txs.getD its.length []) e']).getD i []=txs.getD i []:=fun i hi=>getD_lt _ _ _ _ om;have htn:(txs++[spliceE (txs.getD its.length []) e']).getD (its.length+1) []=spliceE (txs.getD its.length []) e':=by
  have:=getD_eq txs (spliceE (txs.getD its.length []) e') [];rw[hlt] at this;exact this
 have hii:∀i,i<its.length->(its++[x]).getD i it0=its.getD i it0:=fun i hi=>getD_lt _ _ _ _ hi;have hin:(its++[x]).getD its.length it0=x:=getD_eq _ _ _;have hei:∀i,i<its.length->(es++[e']).getD i ed0=es.getD i ed0:=fun i hi=>getD_lt _ _ _ _ om;have hen:(es++[e']).getD its.length ed0=e':=by rw[<-hle];exact getD_eq _ _ _
 have htk:∀i,i<=its.length->(es++[e']).take i=es.take i:=fun i hi=>List.take_append_of_le_length om;refine⟨⟨by simp[hle],by simp[hlt],fun i hi=>?_,fun i hi y hy=>?_,fun i hi=>?_,fun i hi=>?_,fun i hi=>?_,fun i hi=>?_,fun i hi=>?_⟩,hm⟩
 ·have hi':i<=its.length+1:=by simpa using hi
  rcases Nat.lt_or_ge its.length i with h1|h1
  ·have:i=its.length+1:=om;subst this;rw[htn];have h2:=h.sz its.length (Nat.le_refl _);have h3:e'.ins.length<=3:=by rw[hins];exact h3i
   have:=hm.2.1;omega
  ·rw[hti i h1];exact h.sz i h1
 ·have hi':i<=its.length+1:=by simpa using hi
  rcases Nat.lt_or_ge its.length i with h1|h1
  ·have:i=its.length+1:=om;subst this;rw[htn] at hy;unfold spliceE spliceL at hy;rcases List.mem_append.1 hy with hy|hy
   ·rcases List.mem_append.1 hy with hy|hy
    ·exact h.sm its.length (Nat.le_refl _) y (List.mem_of_mem_take hy)
    ·rw[hins] at hy;exact hxs y hy
   ·exact h.sm its.length (Nat.le_refl _) y (List.mem_of_mem_drop hy)
  ·rw[hti i h1] at hy;exact h.sm i h1 y hy
 ·have hi':i<its.length+1:=by simpa using hi
  rcases Nat.lt_or_ge i its.length with h1|h1
  ·obtain⟨b',q1,q2,q3,q4⟩:=h.bs i h1;refine⟨b',?_,q2,?_,?_⟩
   ·rw[hii i h1];exact q1
   ·rw[hii i h1,hti b' om];exact q3
   ·rw[hei i h1,htk i om,hii i h1];exact q4
  ·have:i=its.length:=om;subst this;refine⟨b,?_,hbl,?_,?_⟩
   ·rw[hin];exact hb
   ·rw[hin,hti b hbl];exact hx
   ·rw[hen,htk _ (Nat.le_refl _),List.take_of_length_le om,hin];exact he'.symm
 ·have hi':i<its.length+1:=by simpa using hi
  rcases Nat.lt_or_ge i its.length with h1|h1
  ·rw[hii i h1,cntC_take om];exact h.cl i h1
  ·have:i=its.length:=om;subst this;rw[hin,cntC_take (Nat.le_refl _),List.take_length];exact⟨hc.1,hc.2,hn,h3i⟩
 ·have hi':i<its.length+1:=by simpa using hi
  rcases Nat.lt_or_ge i its.length with h1|h1
  ·rw[hti i om,hei i h1];exact h.ed i h1
  ·have:i=its.length:=om;subst this;rw[hti _ (Nat.le_refl _),hen];exact hm
 ·have hi':i<its.length+1:=by simpa using hi
  rcases Nat.lt_or_ge i its.length with h1|h1
  ·rw[hti (i+1) om,hti i om,hei i h1];exact h.nx i h1
  ·have:i=its.length:=om;subst this;rw[htn,hti _ (Nat.le_refl _),hen]
 ·have hi':i<its.length+1:=by simpa using hi
  rcases Nat.lt_or_ge i its.length with h1|h1
  ·rw[hii i h1];exact h.iv i h1
  ·have:i=its.length:=om;subst this;rw[hin];exact hxs
def BdX (l:List (Int×Int×Int)):Prop:=∀y∈l,0<=y.1/\0<=y.2.1/\0<=y.2.2/\y.1+y.2.1<=1099511627776/\y.2.2<=65536
def flatE (l:List Oe):List Value:=l.flatMap fun o=>[.int .i64 o.e.at_,.int .i64 o.e.del,.slice o.A o.e.ins.length o.c]
theorem flatE_append (l m:List Oe):flatE (l++m)=flatE l++flatE m:=by simp[flatE]
theorem flatE_len (l:List Oe):(flatE l).length=l.length*3:=by
 induction l with
 | nil=>rfl
 | cons y l ih=>simp only[flatE,List.flatMap_cons,List.length_append] at *;simp only[List.length_cons,List.length_nil];omega
theorem D4z1 {P:Prop} (h:P:=by
 intro u hu;obtain⟨o,_,hu⟩:=List.mem_flatMap.1 hu;simp only[List.mem_cons,List.not_mem_nil,or_false] at hu;rcases hu with rfl|rfl|rfl<;>rfl):P:=h
theorem flatE_one (l:List Oe):∀u∈flatE l,u.oneCell'=true:=by
 exact D4z1
theorem flat_one (l:List (Int×Int×Int)):∀u∈flat l,u.oneCell'=true:=by
 exact D4z1
def ownB (g m1 m2:Nat)(A:Option Addr)(b:Nat):Prop:=b=g\/b=m1\/b=m2\/A.map (·.block)=some b
theorem MapAt.ownNe {α β:Type}{w:World}{b:Nat}{kv:α->Value}{vv:β->Value}{l:List (α×β)}(h:MapAt w b kv vv l){base e size n c:Nat}{A:Option Addr}{xs:List Value}(ho:OwnS w base e size A n c xs):Off A b:=by
 intro hb;obtain⟨_,cur,hh⟩:=ho.blt hb;obtain⟨es,clock,h,_⟩:=h;rw[hh] at h;cases h
structure TkI (w:World)(base base2 g m1 m2:Nat)(A:Option Addr)(c:Nat)(s:Ds)(L:Option Addr)(cl:Nat)(out:List Oe):Prop where
 desk:DeskAt w base g m1 m2 A c s.ap s.nx s.hd
 ok:∀p∈s.hd,ItOk p.2.it
 bd:BdX s.ap
 sum:s.ap.length+s.hd.length<=5000
 outs:OwnS w base2 55 3 L out.length cl (flatE out)
 oil:∀o∈out,IL w o.A o.c o.e.ins/\(o.e.ins≠[]->∀b,o.A.map (·.block)=some b->b≠g/\Off A b/\Off L b)
 hil:∀p∈s.hd,p.2.it.e.ins≠[]->∀b,p.2.A.map (·.block)=some b->Off L b
 lg:Off L g
 lA:∀b,L.map (·.block)=some b->Off A b
namespace TkI
variable {w w':World} {base base2 g m1 m2 c cl:Nat} {A L:Option Addr} {s:Ds} {out:List Oe}
theorem ext (h:TkI w base base2 g m1 m2 A c s L cl out)(x:Ext w w'):TkI w' base base2 g m1 m2 A c s L cl out:=
 ⟨h.desk.ext x,h.ok,h.bd,h.sum,OwnS.ext h.outs x,fun o ho=>⟨(h.oil o ho).1.ext x,(h.oil o ho).2⟩,h.hil,h.lg,h.lA⟩
theorem keep (h:TkI w base base2 g m1 m2 A c s L cl out){m:Nat}(k:KpP (·=m) w w')(hm:m=m1\/m=m2) :
 Blk w' g 171 #[.slice A s.ap.length c,.map (some m1),.map (some m2)]/\OwnS w' base 179 3 A s.ap.length c (flat s.ap)/\
 OwnS w' base2 55 3 L out.length cl (flatE out)/\(∀o∈out,IL w' o.A o.c o.e.ins)/\(∀p∈s.hd,IL w' p.2.A p.2.c p.2.it.e.ins):=by
 have hmm:∃l:List (Int×Int),MapAt w m1 (Value.int .i64) (Value.int .i64) l:=⟨_,h.desk.next⟩;have hne:∀b,(∃cur T,w.heap[b]? = some (.cells cur T (0,0)))->b≠m:=by
  rintro b ⟨cur,T,hb⟩ rfl;rcases hm with rfl|rfl
  ·obtain⟨es,clock,h1,_⟩:=h.desk.next;rw[hb] at h1;cases h1
  ·obtain⟨es,clock,h1,_⟩:=h.desk.held;rw[hb] at h1;cases h1
 have hil:∀(A:Option Addr) (c:Nat) (xs:List Int),IL w A c xs->IL w' A c xs:=fun A c xs hI=>hI.kp k (fun hx b hb=>by
  rintro rfl;obtain⟨b',o,rfl,hc⟩:=hI.at_ hx;have:b'=b:=by simpa using hb
  subst this;have h0:=hc 0 (List.length_pos_iff.2 hx);rcases hm with rfl|rfl
  ·exact h.desk.next.cellNe h0 rfl
  ·exact h.desk.held.cellNe h0 rfl)
 refine⟨k.blk h.desk.blk (hne g ⟨_,_,h.desk.blk⟩),OwnS.kp h.desk.own k (fun b hb=>?_),OwnS.kp h.outs k (fun b hb=>?_),fun o ho=>hil _ _ _ (h.oil o ho).1,fun p hp=>hil _ _ _ (h.desk.il p hp).2.1⟩
 ·obtain⟨_,cur,hh⟩:=OwnS.blt h.desk.own hb;exact hne b ⟨_,_,hh⟩
 ·obtain⟨_,cur,hh⟩:=OwnS.blt h.outs hb;exact hne b ⟨_,_,hh⟩
theorem putNx (h:TkI w base base2 g m1 m2 A c s L cl out)(k:KpP (·=m1) w w'){nx:List (Int×Int)}(hn:MapAt w' m1 (Value.int .i64) (Value.int .i64) nx):TkI w' base base2 g m1 m2 A c ⟨s.ap,nx,s.hd⟩ L cl out:=by
 obtain⟨k1,k2,k3,k4,k5⟩:=h.keep k (.inl rfl);exact⟨⟨k1,k2,hn,h.desk.held.kp k (fun e=>h.desk.ne2 e.symm),h.desk.ne,h.desk.ne2,fun p hp=>⟨(h.desk.il p hp).1,k5 p hp,(h.desk.il p hp).2.2⟩,h.desk.lo⟩,h.ok,h.bd,h.sum,k3,fun o ho=>⟨k4 o ho,(h.oil o ho).2⟩,h.hil,h.lg,h.lA⟩
theorem del (h:TkI w base base2 g m1 m2 A c s L cl out)(k:KpP (·=m2) w w'){x:Int×Int}(hn:MapAt w' m2 keyV hvV (delL s.hd x)):TkI w' base base2 g m1 m2 A c ⟨s.ap,s.nx,delL s.hd x⟩ L cl out:=by
 obtain⟨k1,k2,k3,k4,k5⟩:=h.keep k (.inr rfl);have hs:∀p∈delL s.hd x,p∈s.hd:=fun p hp=>(List.mem_filter.1 hp).1;have hle:(delL s.hd x).length<=s.hd.length:=List.length_filter_le _ _;exact⟨⟨k1,k2,h.desk.next.kp k h.desk.ne2,hn,h.desk.ne,h.desk.ne2,fun p hp=>⟨(h.desk.il p (hs p hp)).1,k5 p (hs p hp),(h.desk.il p (hs p hp)).2.2⟩,h.desk.lo⟩,
  fun p hp=>h.ok p (hs p hp),h.bd,by have:=h.sum;simp only;omega,k3,fun o ho=>⟨k4 o ho,(h.oil o ho).2⟩,fun p hp=>h.hil p (hs p hp),h.lg,h.lA⟩
theorem app (h:TkI w base base2 g m1 m2 A c s L cl out){w1:World}{A':Option Addr}{c':Nat}{y:Int×Int×Int}(hg:w.grownBy w1 (A.map (·.block)))(ho:OwnS w1 base 179 3 A' (s.ap.length+1) c' (flat s.ap++flat [y]))
 (hat:A'.map (·.block)=A.map (·.block)\/A'.map (·.block)=some w.heap.size) (hx:Ext w1 w')
 (hy:0<=y.1/\0<=y.2.1/\0<=y.2.2/\y.1+y.2.1<=1099511627776/\y.2.2<=65536) (hs:s.ap.length+1+s.hd.length<=5000) :
 TkI (w'.setCell ⟨g,0,none⟩ (.slice A' (s.ap.length+1) c')) base base2 g m1 m2 A' c' ⟨s.ap++[y],s.nx,s.hd⟩ L cl out:=by
 have kg:=KpP.of_grown hg;have kx:KpP (fun b=>A.map (·.block)=some b) w w':=kg.trans (KpP.of_ext hx);have kk:KpP (fun b=>b=g\/A.map (·.block)=some b) w (w'.setCell ⟨g,0,none⟩ (.slice A' (s.ap.length+1) c')):=(kx.mono (fun b hb=>.inr hb)).set (.inl (.inl rfl)) _;have hgl:=h.desk.blk.lt;have ha':∀b,b<w.heap.size->Off A b->Off A' b:=fun b hb hoff he=>by
  rcases hat with e|e
  ·exact hoff (e.symm.trans he)
  ·rw[e] at he;injection he with he;omega
 have hb1:Blk w' g 171 #[.slice A s.ap.length c,.map (some m1),.map (some m2)]:=kx.blk h.desk.blk h.desk.ne;have hil:∀(X:Option Addr) (d:Nat) (xs:List Int),IL w X d xs->(xs≠[]->∀b,X.map (·.block)=some b->b≠g/\Off A b)->IL (w'.setCell ⟨g,0,none⟩ (.slice A' (s.ap.length+1) c')) X d xs:=
  fun X d xs hI hn=>hI.kp kk (fun hxs b hb hor=>hor.elim (hn hxs b hb).1 (hn hxs b hb).2)
 have hgA':=ha' g hgl h.desk.ne;refine⟨⟨?_,?_,h.desk.next.kp kk ?_,h.desk.held.kp kk ?_,hgA',h.desk.ne2,fun p hp=>⟨(h.desk.il p hp).1,?_,fun hn b hb=>?_⟩,h.desk.lo⟩,h.ok,?_,?_,?_,fun o ho'=>⟨?_,fun hn b hb=>?_⟩,h.hil,h.lg,fun b hb=>?_⟩
 ·have:=hb1.set 0 (.slice A' (s.ap.length+1) c');simp only[List.setIfInBounds_toArray,List.set_cons_zero] at this
  simpa using this
 ·have:=OwnS.far (OwnS.ext ho hx) (p:=⟨g,0,none⟩) hgA' (.slice A' (s.ap.length+1) c');simp only[List.length_append,List.length_cons,List.length_nil,flat_append];exact this
 ·rintro(e|e)
  ·exact h.desk.next.ne h.desk.blk e
  ·exact h.desk.next.ownNe h.desk.own e
 ·rintro(e|e)
  ·exact h.desk.held.ne h.desk.blk e
  ·exact h.desk.held.ownNe h.desk.own e
 ·exact hil _ _ _ (h.desk.il p hp).2.1 (h.desk.il p hp).2.2
 ·have h1:=(h.desk.il p hp).2.2 hn b hb;exact⟨h1.1,ha' b ((h.desk.il p hp).2.1.blt hn hb) h1.2⟩
 ·intro z hz;rcases List.mem_append.1 hz with hz|hz
  ·exact h.bd z hz
  ·have:z=y:=by simpa using hz
   subst this;exact hy
 ·simp only[List.length_append,List.length_cons,List.length_nil];omega
 ·refine OwnS.kp h.outs kk (fun b hb hor=>hor.elim (fun e=>h.lg (by rw[hb,e])) (fun e=>h.lA b hb e))
 ·exact hil _ _ _ (h.oil o ho').1 (fun hn b hb=>⟨((h.oil o ho').2 hn b hb).1,((h.oil o ho').2 hn b hb).2.1⟩)
 ·have h1:=(h.oil o ho').2 hn b hb;exact⟨h1.1,ha' b ((h.oil o ho').1.blt hn hb) h1.2.1,h1.2.2⟩
 ·exact ha' b (OwnS.blt h.outs hb).1 (h.lA b hb)
theorem put (h:TkI w base base2 g m1 m2 A c s L cl out){w1:World}{L':Option Addr}{cl':Nat}{o:Oe}(hg:w.grownBy w1 (L.map (·.block)))(ho:OwnS w1 base2 55 3 L' (out.length+1) cl' (flatE out++flatE [o]))
 (hat:L'.map (·.block)=L.map (·.block)\/∃n,w.heap.size<=n/\L'.map (·.block)=some n) (hA:∀b,A.map (·.block)=some b->b<w.heap.size)
 (hi:IL w o.A o.c o.e.ins) (hn:o.e.ins≠[]->∀b,o.A.map (·.block)=some b->b≠g/\Off A b/\Off L b):TkI w1 base base2 g m1 m2 A c s L' cl' (out++[o]):=by
 have kk:=KpP.of_grown hg;have hl':∀b,b<w.heap.size->Off L b->Off L' b:=fun b hb hoff he=>by
  rcases hat with e|⟨n,hn,e⟩
  ·exact hoff (e.symm.trans he)
  ·rw[e] at he;injection he with he;omega
 have hd:=h.desk;refine⟨⟨kk.blk hd.blk h.lg,OwnS.kp hd.own kk (fun b hb e=>h.lA b e hb),hd.next.kp kk (hd.next.ownNe h.outs),hd.held.kp kk (hd.held.ownNe h.outs),hd.ne,hd.ne2,
  fun p hp=>⟨(hd.il p hp).1,(hd.il p hp).2.1.kp kk (fun hx b hb=>h.hil p hp hx b hb),(hd.il p hp).2.2⟩,hd.lo⟩,h.ok,h.bd,h.sum,?_,fun z hz=>?_,fun p hp hx b hb=>?_,?_,fun b hb=>?_⟩
 ·simp only[List.length_append,List.length_cons,List.length_nil,flatE_append];exact ho
 ·rcases List.mem_append.1 hz with hz|hz
  ·have h1:=h.oil z hz;exact⟨h1.1.kp kk (fun hx b hb=>(h1.2 hx b hb).2.2),fun hx b hb=>⟨(h1.2 hx b hb).1,(h1.2 hx b hb).2.1,hl' b (h1.1.blt hx hb) (h1.2 hx b hb).2.2⟩⟩
  ·have:z=o:=by simpa using hz
   subst this;exact⟨hi.kp kk (fun hx b hb=>(hn hx b hb).2.2),fun hx b hb=>⟨(hn hx b hb).1,(hn hx b hb).2.1,hl' b (hi.blt hx hb) (hn hx b hb).2.2⟩⟩
 ·exact hl' b ((hd.il p hp).2.1.blt hx hb) (h.hil p hp hx b hb)
 ·exact hl' g hd.blk.lt h.lg
 ·rcases hat with e|⟨n,hn',e⟩
  ·exact h.lA b (e.symm.trans hb)
  ·rw[e] at hb;injection hb with hb
   intro e2;have:=hA b e2;omega
end TkI
def lcpm:Nat->List Int->List Int->Nat
 | 0,_,_=>0
 | m+1,x::xs,y::ys=>if x=y then lcpm m xs ys+1 else 0
 | _+1,_,_=>0
theorem lcpm_eq:∀(k m:Nat) (a b:List Int),k<=m->a.take k=b.take k->k<=a.length->k<=b.length->(k=m\/∃(h1:k<a.length) (h2:k<b.length),a[k]≠b[k])->lcpm m a b=k
 | 0,m,a,b,_,_,_,_,hs=>by
  rcases hs with h|⟨h1,h2,hne⟩
  ·subst h;rfl
  ·cases m with
   | zero=>rfl
   | succ m=>
    match a,b,h1,h2,hne with
    | x::xs,y::ys,_,_,hne=>simp at hne;simp[lcpm,hne]
 | k+1,m,a,b,hm,ht,ha,hb,hs=>by
  match a,b,ha,hb,ht,hs with
  | x::xs,y::ys,ha,hb,ht,hs=>
   obtain⟨m,rfl⟩:∃m',m=m'+1:=⟨m-1,om⟩;simp only[List.take_succ_cons,List.cons.injEq] at ht;simp only[List.length_cons] at ha hb;have ih:=lcpm_eq k m xs ys om ht.2 om om (by
    rcases hs with h|⟨h1,h2,hne⟩
    ·exact .inl om
    ·exact .inr ⟨by simpa using h1,by simpa using h2,by simpa using hne⟩)
   simp[lcpm,ht.1,ih]
def diffAt (a b:List Int):Nat:=lcpm (min a.length b.length) a b
def diffStay (a b:List Int):Nat:=lcpm (min a.length b.length-diffAt a b) a.reverse b.reverse
def diffE (a b:List Int):Ed:=⟨diffAt a b,(a.length:Int)-diffStay a b-diffAt a b,(b.drop (diffAt a b)).take (b.length-diffStay a b-diffAt a b)⟩
theorem take_rev_succ (a b:List Int)(j:Nat)(h1:j<a.length)(h2:j<b.length)(h:a.reverse.take j=b.reverse.take j)(he:a[a.length-1-j]=b[b.length-1-j]):a.reverse.take (j+1)=b.reverse.take (j+1):=by
 rw[List.take_succ_eq_append_getElem (by simpa using h1),List.take_succ_eq_append_getElem (by simpa using h2),h,List.getElem_reverse,List.getElem_reverse,he]
theorem diff_any (A B:Option Addr)(c c':Nat)(a b:List Int)(w:World)(ha:IL w A c a)(hb:IL w B c' b)(hla:a.length<=1099511627776)(hlb:b.length<=1099511627776) :
 Calls Tryz.prog 96 #[.slice A a.length c,.slice B b.length c'] w (RetEdF (diffE a b) w):=by
 obtain⟨a1,a2⟩:=ha.len;obtain⟨b1,b2⟩:=hb.len;obtain⟨B4,X4⟩:=alloc1 w 55 #[.int .i64 0,.int .i64 0,.slice none 0 0];obtain⟨s,hs⟩:∃s:Nat,s=min a.length b.length:=⟨_,rfl⟩;have hsi:(if b.length<a.length then(b.length:Int) else a.length)=s:=by subst hs;split<;>omega
 have hs1:s<=a.length:=om;have hs2:s<=b.length:=om;have HS:=lh hs;clear hs;go_enter Tryz.func96,Tryz.ntmps96
 go_upto_block 0 with fail
 have HSI:=lh hsi;clear hsi
 go_cut [6] from 13 to 28 (fun v6 wx=>∃k:Nat,v6=.int .i64 k/\k<=s/\Hid (lcpm s a b=k)/\Ext w wx/\Blk wx w.heap.size 55 #[.int .i64 0,.int .i64 0,.slice none 0 0])
 case first=>
  go_wp2_with fail
  go_loopw [6] (fun i wr=>∃k:Nat,k<=s/\i=.int .i64 k/\Hid (a.take k=b.take k)/\Ext w wr/\Blk wr w.heap.size 55 #[.int .i64 0,.int .i64 0,.slice none 0 0]) (fun i _=>s-(intOf i).toNat)
  case atStart=>exact⟨0,Nat.zero_le _,rfl,rfl,X4,B4⟩
  case round=>
   obtain⟨k,hk,rfl,ht,hext,hB⟩:=hrel;clear X4 B4;by_cases hlt:k<s
   ·obtain⟨p1,o1,rfl,g1⟩:=(ha.ext hext).get (show k<a.length by omega);obtain⟨p2,o2,rfl,g2⟩:=(hb.ext hext).get (show k<b.length by omega);have l1:k<a.length:=om;have l2:k<b.length:=om;have hlt2:(k:Int)<a.length:=om;have hlt3:(k:Int)<b.length:=om;by_cases he:a[k]=b[k]
    ·have he':(a[k] == b[k])=true:=by simp[he]
     have HT:=lh (beq_take_succ a b k l1 l2 ht.out he);clear he
     go_wp2_with (go_quiet (fail))
     go_roundw
     case rel=>exact⟨k+1,om,by go_num,HT.out,hext.trans (Ext.drewN _ _),hB.ext (Ext.drewN _ _)⟩
     case measure=>simp[intOf];omega
    ·have he':(a[k] == b[k])=false:=by simp[he]
     have HL:=lh (lcpm_eq k s a b hk ht.out om om (.inr ⟨l1,l2,he⟩));clear he
     go_wp2_with (go_quiet (fail))
     go_meet
     exact⟨k,rfl,hk,HL,hext.trans (Ext.drewN _ _),hB.ext (Ext.drewN _ _)⟩
   ·have HL:=lh (lcpm_eq k s a b hk ht.out om om (.inl om));have hn:decide ((k:Int)<s)=false:=by simp;omega
    go_wp2_with (go_quiet (fail))
    go_meet
    exact⟨k,rfl,hk,HL,hext.trans (Ext.drewN _ _),hB.ext (Ext.drewN _ _)⟩
 case rest=>
  obtain⟨k,rfl,hk,hat,hext,hB⟩:=hcut;clear X4 B4
  go_upto_block 2 with fail
  go_cut [7] from 29 to 54 (fun v7 wx=>∃j:Nat,v7=.int .i64 j/\j<=s-k/\Hid (lcpm (s-k) a.reverse b.reverse=j)/\Ext w wx/\Blk wx w.heap.size 55 #[.int .i64 0,.int .i64 0,.slice none 0 0])
  case first=>
   go_wp2_with fail
   go_loopw [7] (fun i wr=>∃j:Nat,j<=s-k/\i=.int .i64 j/\Hid (a.reverse.take j=b.reverse.take j)/\Ext w wr/\Blk wr w.heap.size 55 #[.int .i64 0,.int .i64 0,.slice none 0 0]) (fun i _=>s-k-(intOf i).toNat)
   case atStart=>exact⟨0,Nat.zero_le _,rfl,rfl,hext,hB⟩
   case round=>
    obtain⟨j,hj,rfl,ht,hext,hB⟩:=hrel;by_cases hlt:j<s-k
    ·have l1:j<a.length:=om;have l2:j<b.length:=om;obtain⟨p1,o1,rfl,g1⟩:=(ha.ext hext).get (show a.length-1-j<a.length by omega);obtain⟨p2,o2,rfl,g2⟩:=(hb.ext hext).get (show b.length-1-j<b.length by omega);have hlt0:(j:Int)<(s:Int)-k:=om;have hlt2:(a.length:Int)-1-j<a.length:=om;have hlt3:(b.length:Int)-1-j<b.length:=om;have hge2:(0:Int)<=(a.length:Int)-1-j:=om;have hge3:(0:Int)<=(b.length:Int)-1-j:=om;have e1:((a.length:Int)-1-j).toNat=a.length-1-j:=om;have e2:((b.length:Int)-1-j).toNat=b.length-1-j:=om;by_cases he:a[a.length-1-j]=b[b.length-1-j]
     ·have he':=beq_iff_eq.2 he;have HT:=lh (take_rev_succ a b j l1 l2 ht.out he);clear he
      go_wp2_with (go_quiet (fail))
      go_roundw
      case rel=>exact⟨j+1,om,by go_num,HT.out,hext.trans (Ext.drewN _ _),hB.ext (Ext.drewN _ _)⟩
      case measure=>simp[intOf];omega
     ·have he':=beq_eq_false_iff_ne.2 he;have HL:=lh (lcpm_eq j (s-k) a.reverse b.reverse hj ht.out (by simp;omega) (by simp;omega) (.inr ⟨by simpa using l1,by simpa using l2,by rw[List.getElem_reverse,List.getElem_reverse];exact he⟩));clear he
      go_wp2_with (go_quiet (fail))
      go_meet
      exact⟨j,rfl,hj,HL,hext.trans (Ext.drewN _ _),hB.ext (Ext.drewN _ _)⟩
    ·have HL:=lh (lcpm_eq j (s-k) a.reverse b.reverse hj ht.out (by simp;omega) (by simp;omega) (.inl om));have hn:decide ((j:Int)<(s:Int)-k)=false:=by simp;omega
     go_wp2_with (go_quiet (fail))
     go_meet
     exact⟨j,rfl,hj,HL,hext.trans (Ext.drewN _ _),hB.ext (Ext.drewN _ _)⟩
  case rest=>
   obtain⟨j,rfl,hj,hst,hext,hB⟩:=hcut;have eAt:diffAt a b=k:=by unfold diffAt;rw[<-HS.out];exact hat.out
   have eSt:diffStay a b=j:=by unfold diffStay;rw[eAt,<-HS.out];exact hst.out
   have eD:diffE a b=⟨k,(a.length:Int)-j-k,(b.drop k).take (b.length-j-k)⟩:=by unfold diffE;rw[eAt,eSt]
   have ED:=lh eD;clear eAt eSt eD;have hBz:=hB.lt
   go_wp2_with fail
   refine(replaced_any _ _ _ _ _ _ _ _ _ (hb.ext hext) hla hlb om om).mono ?_;rintro e w1 ⟨C,cc,rfl,hil,hx1,hfr⟩;obtain⟨r0,r1,r2,s0,s1,s2,hz4⟩:=(hB.ext hx1).c3
   simp only at hil ⊢
   generalize hu:(b.drop k).take (b.length-j-k)=u at *;have HU:=lh hu;clear hu
   go_wp2
   refine bodyPost_ret (v:=.agg #[.int .i64 k,.int .i64 ((a.length:Int)-j-k),.slice C u.length cc]) (by simp[results,Tryz.results96,go_sem,r0,r1,r2]) rfl ⟨C,cc,?_,?_,?_,hfr.mono hext⟩
   ·rw[ED.out]
   ·rw[ED.out];exact((hil.setOld hfr (p:=⟨w.heap.size,0,none⟩) hBz _).setOld hfr (p:=⟨w.heap.size,1,none⟩) hBz _).setOld hfr (p:=⟨w.heap.size,2,none⟩) hBz _
   ·exact(((hext.trans hx1).setNew si _).setNew si _).setNew si _
theorem ex1:movedE ⟨5,0,[9]⟩ ⟨1,2,[1,2,3]⟩=⟨6,0,[9]⟩:=by rfl
theorem ex2:movedE ⟨5,0,[9]⟩ ⟨5,0,[1,2,3]⟩=⟨8,0,[9]⟩:=by rfl
theorem ex3:movedE ⟨2,4,[]⟩ ⟨4,4,[]⟩=⟨2,2,[]⟩:=by rfl
theorem ex4:diffE [1,2,2,3] [1,2,3]=⟨2,1,[]⟩:=by rfl
theorem IL.lit {w:World}{g T:Nat}(cs:List Int)(h:Blk w g T (cs.map (Value.int .i64)).toArray)(hs:∀x∈cs,0<=x/\x<=1000000)(hl:cs.length<=1000):IL w (some ⟨g,0,none⟩) cs.length cs:=
 IL.of_blk h (fun x hx=>I64_of (by have:=hs x hx;omega)) um
theorem move_ex1 (W:World)(A B:Option Addr)(c c':Nat)(hA:IL W A c [9])(hB:IL W B c' [1,2,3]) :
 Calls Tryz.prog 95 #[.agg #[.int .i64 5,.int .i64 0,.slice A 1 c],.agg #[.int .i64 1,.int .i64 2,.slice B 3 c']] W (RetEdE ⟨6,0,[9]⟩ 0 W):=by
 have h:=move_ok ⟨5,0,[9]⟩ ⟨1,2,[1,2,3]⟩ A B c c' W hA hB de de;rw[ex1] at h;exact h
theorem move_ex2 (W:World)(A B:Option Addr)(c c':Nat)(hA:IL W A c [9])(hB:IL W B c' [1,2,3]) :
 Calls Tryz.prog 95 #[.agg #[.int .i64 5,.int .i64 0,.slice A 1 c],.agg #[.int .i64 5,.int .i64 0,.slice B 3 c']] W (RetEdE ⟨8,0,[9]⟩ 0 W):=by
 have h:=move_ok ⟨5,0,[9]⟩ ⟨5,0,[1,2,3]⟩ A B c c' W hA hB de de;rw[ex2] at h;exact h
theorem move_ex3 (W:World):Calls Tryz.prog 95 #[.agg #[.int .i64 2,.int .i64 4,.slice none 0 0],.agg #[.int .i64 4,.int .i64 4,.slice none 0 0]] W (RetEdE ⟨2,2,[]⟩ 0 W):=by
 have h:=move_ok ⟨2,4,[]⟩ ⟨4,4,[]⟩ none none 0 0 W (IL.nil _) (IL.nil _) de de;rw[ex3] at h;exact h
theorem diff_ex4 (W:World)(A B:Option Addr)(c c':Nat)(hA:IL W A c [1,2,2,3])(hB:IL W B c' [1,2,3]) :
 Calls Tryz.prog 96 #[.slice A 4 c,.slice B 3 c'] W (RetEdF ⟨2,1,[]⟩ W):=by
 have h:=diff_any A B c c' [1,2,2,3] [1,2,3] W hA hB si si;rw[ex4] at h;exact h
theorem same_ex (W:World)(A:Option Addr)(c:Nat)(hA:IL W A c []) :
 Calls Tryz.prog 97 #[.agg #[.int .i64 2,.int .i64 1,.slice A 0 c],.agg #[.int .i64 2,.int .i64 1,.slice none 0 0]] W (RetV (.bool true) W):=by
 have h:=sameEdit_any 2 1 2 1 A none c 0 [] [] W hA (IL.nil _);rw[decide_eq_true si] at h;exact h
theorem lives_any (w:World):Calls Tryz.prog 26 #[] w (RetV (.bool true) w):=by
 go_enter Tryz.func26,Tryz.ntmps26
 go_wp2_with fail
 obtain⟨b1,b2,X⟩:=alloc2 w 3 #[.int .i64 9] 3 #[.int .i64 1,.int .i64 2,.int .i64 3];refine(move_ex1 _ _ _ _ _ (IL.lit [9] b1 si si) (IL.lit [1,2,3] b2 si si)).mono ?_;rintro e w1 ⟨C1,c1,rfl,i1,x1,f1⟩;replace X:=X.trans x1;clear b1 b2 x1 f1 i1;simp only[List.length_cons,List.length_nil,Nat.zero_add]
 go_wp2_with fail
 obtain⟨B1,b1,b2,X1⟩:=alloc3 w1 55 #[.int .i64 6,.int .i64 0,.slice C1 1 c1] 3 #[.int .i64 9] 3 #[.int .i64 1,.int .i64 2,.int .i64 3];refine(move_ex2 _ _ _ _ _ (IL.lit [9] b1 si si) (IL.lit [1,2,3] b2 si si)).mono ?_;rintro e w2 ⟨C2,c2,rfl,i1,x1,f1⟩;replace X:=(X.trans X1).trans x1;replace B1:=B1.ext x1;clear b1 b2 x1 f1 i1 X1;simp only[List.length_cons,List.length_nil,Nat.zero_add]
 go_wp2_with fail
 obtain⟨B2,X1⟩:=alloc1 w2 55 #[.int .i64 8,.int .i64 0,.slice C2 1 c2];refine(move_ex3 _).mono ?_;rintro e w3 ⟨C3,c3,rfl,i1,x1,f1⟩;replace X:=(X.trans X1).trans x1;replace B1:=(B1.ext X1).ext x1;replace B2:=B2.ext x1;clear x1 f1 i1 X1;simp only[List.length_nil]
 go_wp2_with fail
 obtain⟨B3,b1,b2,X1⟩:=alloc3 w3 55 #[.int .i64 2,.int .i64 2,.slice C3 0 c3] 3 #[.int .i64 1,.int .i64 2,.int .i64 2,.int .i64 3] 3 #[.int .i64 1,.int .i64 2,.int .i64 3];refine(diff_ex4 _ _ _ _ _ (IL.lit [1,2,2,3] b1 si si) (IL.lit [1,2,3] b2 si si)).mono ?_;rintro e w4 ⟨C4,c4,rfl,i1,x1,f1⟩;replace X:=(X.trans X1).trans x1;replace B1:=(B1.ext X1).ext x1;replace B2:=(B2.ext X1).ext x1;replace B3:=B3.ext x1;simp only[List.length_nil];obtain⟨p0,p1,p2,_,_,_,pz⟩:=B1.c3;obtain⟨q0,q1,q2,_,_,_,qz⟩:=B2.c3;obtain⟨r0,r1,r2,_,_,_,rz⟩:=B3.c3;clear B1 B2 B3 b1 b2 x1 f1 X1
 go_wp2_with fail
 refine(same_ex _ _ _ (i1.ext (Ext.alloc _ _))).mono ?_;rintro e w5 ⟨rfl,x5⟩
 go_wp2
 go_ret
 exact⟨rfl,(X.trans (Ext.alloc _ _)).trans x5⟩
end
section
open Go.RowKit
attribute [local go_sem ↓] Go.wp_at_zero Go.wp_at_succ
def EL (w:World)(b:Nat)(es:List Ed):Prop:=
 ∀i (h:i<es.length),∃A c,w.cell? ⟨b,i*3,none⟩=some (.int .i64 es[i].at_)/\w.cell? ⟨b,i*3+1,none⟩=some (.int .i64 es[i].del)/\
  w.cell? ⟨b,i*3+2,none⟩=some (.slice A es[i].ins.length c)/\IL w A c es[i].ins
theorem flatE_get (l:List Oe)(i:Nat)(h:i<l.length):(flatE l)[i*3]? = some (.int .i64 l[i].e.at_)/\(flatE l)[i*3+1]? = some (.int .i64 l[i].e.del)/\(flatE l)[i*3+2]? = some (.slice l[i].A l[i].e.ins.length l[i].c):=by
 induction l generalizing i with
 | nil=>simp at h
 | cons y l ih=>
  cases i with
  | zero=>simp[flatE]
  | succ i=>
   have hi:i<l.length:=by simpa using h
   have e:flatE (y::l)=.int .i64 y.e.at_::.int .i64 y.e.del::.slice y.A y.e.ins.length y.c::flatE l:=by simp[flatE]
   have e1:(i+1)*3=i*3+3:=om;rw[e,e1];exact ih i hi
end
section
open Go.RowKit
def flatI (l:List Hv):List Value:=l.flatMap fun h=>[.int .i64 h.it.client,.int .i64 h.it.number,.int .i64 h.it.base,.int .i64 h.it.e.at_,.int .i64 h.it.e.del,.slice h.A h.it.e.ins.length h.c]
theorem flatI_append (l m:List Hv):flatI (l++m)=flatI l++flatI m:=by simp[flatI]
theorem flatI_len (l:List Hv):(flatI l).length=l.length*6:=by
 induction l with
 | nil=>rfl
 | cons y l ih=>simp only[flatI,List.flatMap_cons,List.length_append] at *;simp only[List.length_cons,List.length_nil];omega
theorem flatI_one (l:List Hv):∀u∈flatI l,u.oneCell'=true:=by
 intro u hu;obtain⟨o,_,hu⟩:=List.mem_flatMap.1 hu;simp only[List.mem_cons,List.not_mem_nil,or_false] at hu;rcases hu with rfl|rfl|rfl|rfl|rfl|rfl<;>rfl
theorem flatI_get (l:List Hv)(i:Nat)(h:i<l.length):(flatI l)[i*6]? = some (.int .i64 l[i].it.client)/\(flatI l)[i*6+1]? = some (.int .i64 l[i].it.number)/\(flatI l)[i*6+2]? = some (.int .i64 l[i].it.base)/\
 (flatI l)[i*6+3]? = some (.int .i64 l[i].it.e.at_)/\(flatI l)[i*6+4]? = some (.int .i64 l[i].it.e.del)/\(flatI l)[i*6+5]? = some (.slice l[i].A l[i].it.e.ins.length l[i].c):=by
 induction l generalizing i with
 | nil=>simp at h
 | cons y l ih=>
  cases i with
  | zero=>simp[flatI]
  | succ i=>
   have hi:i<l.length:=by simpa using h
   have e:flatI (y::l)=.int .i64 y.it.client::.int .i64 y.it.number::.int .i64 y.it.base::.int .i64 y.it.e.at_::.int .i64 y.it.e.del::.slice y.A y.it.e.ins.length y.c::flatI l:=by simp[flatI]
   have e1:(i+1)*6=i*6+6:=om;rw[e,e1];exact ih i hi
structure GenM (w:World)(base gN:Nat)(A:Option Addr)(c:Nat)(B:Option Addr)(d:Nat)(l:List Hv)(ws:List Oe)(nb:List Int):Prop where
 nums:Blk w gN 3 (nb.map (Value.int .i64)).toArray
 its:OwnS w base 57 6 A l.length c (flatI l)
 wts:OwnS w base 55 3 B ws.length d (flatE ws)
 il:∀h∈l,IL w h.A h.c h.it.e.ins/\(h.it.e.ins≠[]->∀b,h.A.map (·.block)=some b->b≠gN/\Off A b/\Off B b)
 wl:∀o∈ws,IL w o.A o.c o.e.ins/\(o.e.ins≠[]->∀b,o.A.map (·.block)=some b->b≠gN/\Off A b/\Off B b)
 oA:Off A gN
 oB:Off B gN
 oAB:∀b,A.map (·.block)=some b->Off B b
namespace GenM
variable {w w':World} {base gN c d:Nat} {A B:Option Addr} {l:List Hv} {ws:List Oe} {nb:List Int}
end GenM
end
section
open Go.RowKit
attribute [local go_sem ↓] Go.wp_at_zero Go.wp_at_succ
def cntL (l:List Int)(c:Int):Nat:=(l.filter (fun x=>x == c)).length
theorem cntL_succ (l:List Int)(c:Int)(k:Nat)(h:k<l.length):cntL (l.take (k+1)) c=cntL (l.take k) c+if l[k]=c then 1 else 0:=by
 unfold cntL;rw[List.take_succ_eq_append_getElem h,List.filter_append,List.length_append];by_cases hc:l[k]=c<;>simp[List.filter_cons,hc]
theorem cntL_le (l:List Int)(c:Int):cntL l c<=l.length:=List.length_filter_le _ _
theorem rNext_any (g:Nat)(v0 v2:Value)(C:Option Addr)(cC:Nat)(cl:List Int)(c:Int)(w:World)(hB:Blk w g 156 #[v0,.slice C cl.length cC,v2])(hC:IL w C cC cl)(hl:cl.length<=1000000) :
 Calls Tryz.prog 75 #[.pointer (some ⟨g,0,none⟩),.int .i64 c] w (RetV (.int .i64 (cntL cl c)) w):=by
 have hlen:=hC.len;have HCL:=lh (cntL_le cl c);go_enter Tryz.func75,Tryz.ntmps75
 go_wp2_with fail
 go_loopw [5,6] (fun v5 v6 wr=>∃k:Nat,v6=.int .i64 k/\v5=.int .i64 (cntL (cl.take k) c)/\k<=cl.length/\Ext w wr) (fun _ v _=>cl.length-(intOf v).toNat)
 case atStart=>exact⟨0,rfl,by simp[cntL],Nat.zero_le _,Ext.rfl' _⟩
 case round=>
  obtain⟨k,rfl,rfl,hk,hx⟩:=hrel;have q1:=(hB.ext hx).c3.2.1;have qz:=(hB.ext hx).lt;have hb1:=cntL_le (cl.take k) c;rw[List.length_take] at hb1;by_cases hlt:k<cl.length
  ·have hI:(k:Int)<cl.length:=om;obtain⟨b,o,rfl,p0⟩:=(hC.ext hx).get hlt;have HS:=lh (cntL_succ cl c k hlt);generalize hn:cntL (cl.take k) c=n at *;clear hn;generalize cl[k]=v at *;by_cases hv:v=c
   ·subst hv;have HS2:Hid (cntL (cl.take (k+1)) v=n+1):=by rw[HS.out,if_pos rfl];exact lh rfl
    clear HS
    go_wp2_with fail
    go_roundw
    case rel=>exact⟨k+1,by go_num,by rw[HS2.out];go_num,om,hx⟩
    case measure=>simp[intOf];omega
   ·have hv2:(v == c)=false:=by simpa using hv
    have HS2:Hid (cntL (cl.take (k+1)) c=n):=by rw[HS.out,if_neg hv];exact lh rfl
    clear HS hv
    go_wp2_with fail
    go_roundw
    case rel=>exact⟨k+1,by go_num,by rw[HS2.out],om,hx⟩
    case measure=>simp[intOf];omega
  ·have hI:¬(k:Int)<cl.length:=om;have hkl:cl.take k=cl:=List.take_of_length_le om;have HK:=lh hkl;clear hkl
   go_wp2_with fail
   go_ret
   exact⟨by rw[HK.out];rfl,hx⟩
theorem rready_none (g:Nat)(v0 v1:Value)(H:Option Addr)(cH:Nat)(w:World)(hB:Blk w g 156 #[v0,v1,.slice H 0 cH]) :
 Calls Tryz.prog 142 #[.pointer (some ⟨g,0,none⟩)] w (RetV (.int .i64 (-1)) w):=by
 go_enter Tryz.func142,Tryz.ntmps142
 go_wp2_with fail
 go_loopw [3,4] (fun v3 v4 wr=>v3=.int .i64 (-1)/\v4=.int .i64 0/\Ext w wr) (fun _ _ _=>0)
 case atStart=>exact⟨rfl,rfl,Ext.rfl' _⟩
 case round=>
  obtain⟨rfl,rfl,hx⟩:=hrel;have q2:=(hB.ext hx).c3.2.2.1;have qz:=(hB.ext hx).lt
  go_wp2_with fail
  go_ret
  exact⟨rfl,hx⟩
theorem rready_one (g gh cH n0 c0:Nat)(A0:Option Addr)(C:Option Addr)(cC:Nat)(cl:List Int)(x:It)(B:Option Addr)(cB:Nat)(w:World)
 (hB:Blk w g 156 #[.slice A0 n0 c0,.slice C cl.length cC,.slice (some ⟨gh,0,none⟩) 1 cH]) (hC:IL w C cC cl) (hl:cl.length<=1000000)
 (hh:∀k,k<6->w.cell? ⟨gh,k,none⟩=(flatI [⟨x,B,cB⟩])[k]?) (hn:x.number=cntL cl x.client) (hb:x.base<=n0) :
 Calls Tryz.prog 142 #[.pointer (some ⟨g,0,none⟩)] w (RetV (.int .i64 0) w):=by
 obtain⟨xc,xn,xb,⟨xa,xd,xs⟩⟩:=x
 simp only at hn hb
 have h0:=hh 0 om;have h1:=hh 1 om;have h2:=hh 2 om;have h3:=hh 3 om;have h4:=hh 4 om;have h5:=hh 5 om;change w.cell? ⟨gh,0,none⟩=some (.int .i64 xc) at h0;change w.cell? ⟨gh,1,none⟩=some (.int .i64 xn) at h1;change w.cell? ⟨gh,2,none⟩=some (.int .i64 xb) at h2;change w.cell? ⟨gh,3,none⟩=some (.int .i64 xa) at h3;change w.cell? ⟨gh,4,none⟩=some (.int .i64 xd) at h4;change w.cell? ⟨gh,5,none⟩=some (.slice B xs.length cB) at h5;have HNX:=fun W' h1 h2=>lh (rNext_any g (.slice A0 n0 c0) (.slice (some ⟨gh,0,none⟩) 1 cH) C cC cl xc W' h1 h2 hl)
 rw[<-hn] at HNX;have HN:=lh hn;clear hn hh;go_enter Tryz.func142,Tryz.ntmps142
 go_wp2_with fail
 go_loopw [3,4] (fun v3 v4 wr=>((v3=.int .i64 (-1)/\v4=.int .i64 0)\/(v3=.int .i64 0/\v4=.int .i64 1))/\Ext w wr) (fun _ v _=>1-(intOf v).toNat)
 case atStart=>exact⟨.inl ⟨rfl,rfl⟩,Ext.rfl' _⟩
 case round=>
  obtain⟨hor,hx⟩:=hrel;have hBw:=hB.ext hx;have q0:=hBw.c3.1;have q1:=hBw.c3.2.1;have q2:=hBw.c3.2.2.1;have qz:=hBw.lt;rcases hor with⟨rfl,rfl⟩|⟨rfl,rfl⟩
  ·have g0:=hx.cell h0;have g1:=hx.cell h1;have g2:=hx.cell h2;have g3:=hx.cell h3;have g4:=hx.cell h4;have g5:=hx.cell h5;have bx:=Blk.new wr 59 #[.int .i64 xc,.int .i64 xn,.int .i64 xb,.int .i64 xa,.int .i64 xd,.slice B xs.length cB];have ex:=Ext.alloc wr (.cells #[.int .i64 xc,.int .i64 xn,.int .i64 xb,.int .i64 xa,.int .i64 xd,.slice B xs.length cB] 59)
   go_upto_region 6 with fail
   obtain⟨gx,hgx⟩:∃gx,gx=wr.heap.size:=⟨_,rfl⟩
   rw[<-hgx] at bx ⊢;replace hx:=hx.trans ex;generalize wr.alloc (.cells #[.int .i64 xc,.int .i64 xn,.int .i64 xb,.int .i64 xa,.int .i64 xd,.slice B xs.length cB] 59)=W at *;clear ex hgx g0 g1 g2 g3 g4 g5 q0 q1 q2 qz hBw;have hBW:=hB.ext hx;have q0:=hBW.c3.1;have q2:=hBW.c3.2.2.1;have m0:=bx.cell 0;have m1:=bx.cell 1;have m2:=bx.cell 2;simp only[List.getElem?_toArray,List.getElem?_cons_succ,List.getElem?_cons_zero] at m0 m1 m2;have k0:=kc0 q0;have k2:=kc0 q2;have l0:=kc0 m0;have l1:=kc0 m1;have l2:=kc0 m2;have hb2:¬xb>n0:=om;refine Xr.start [] kr ?_;refine Xtk 0 ?_
   iterate 4(refine Xtn ?_)
   refine Xcl 5 fun w2 hE2 hK2 K hKK=>?_;go_simp;refine(HNX _ (hB.ext (hx.trans hE2)) (hC.ext (hx.trans hE2))).out.mono ?_;rintro e w3 ⟨rfl,x3⟩;refine hKK _ _ x3 ?_;clear hKK;refine ptm ?_;refine Xtk 6 ?_;refine Xtn ?_
   iterate 8(first|refine Xtn ?_|refine Xsn ?_)
   refine Xtn ?_;refine Xdn fun w4 hE4 hK4=>?_;have x4:=hx.trans hK4.nil;clear k0 k2 l0 l1 l2 m0 m1 m2 q0 q2 hE2 hK2 hE4 hK4 x3
   go_upto_region 7 with fail
   refine Xr.start [] kr ?_;refine Xtk 0 ?_
   iterate 2(refine Xtn ?_)
   iterate 11(first|refine Xtn ?_|refine Xsn ?_)
   refine Xtn ?_;refine Xdn fun w5 hE5 hK5=>?_;have x5:=x4.trans hK5.nil;clear hE5 hK5
   go_wp2_with fail
   go_roundw
   case rel=>exact⟨.inr ⟨rfl,by go_num⟩,x5⟩
   case measure=>simp[intOf]
  ·go_wp2_with fail
   go_ret
   exact⟨rfl,hx⟩
end
section
open Go.RowKit
def Later (p q:Nat->Prop)(n:Nat):Prop:=∀b,q b->p b\/n<=b
theorem IL.later {w w':World}{p q:Nat->Prop}{X:Option Addr}{c:Nat}{xs:List Int}(h:IL w X c xs)(hn:xs≠[]->∀b,X.map (·.block)=some b->¬p b)(k:KpP p w w')(hl:Later p q w.heap.size) :
 IL w' X c xs/\(xs≠[]->∀b,X.map (·.block)=some b->¬q b):=
 ⟨h.kp k hn,fun hx b hb hq=>by
  rcases hl b hq with h1|h1
  ·exact hn hx b hb h1
  ·have:=h.blt hx hb;omega⟩
theorem infoRI:(Tryz.prog.info? 59).map (fun i=>(i.zero,i.size,i.bytes))=some (some (.agg #[.int .i64 0,.int .i64 0,.int .i64 0,.int .i64 0,.int .i64 0,.slice none 0 0]),6,64):=by kernel_rfl
theorem infoRN:(Tryz.prog.info? 3).map (fun i=>(i.zero,i.size,i.bytes))=some (some (.int .i64 0),1,8):=by kernel_rfl
def deskB (g:Nat)(A C:Option Addr)(b:Nat):Prop:=b=g\/A.map (·.block)=some b\/C.map (·.block)=some b
structure RdK (w:World)(base g:Nat)(A:Option Addr)(cA:Nat)(ap:List Oe)(C:Option Addr)(cC:Nat)(cl:List Int)(H:Value):Prop where
 blk:Blk w g 156 #[.slice A ap.length cA,.slice C cl.length cC,H]
 apo:OwnS w base 55 3 A ap.length cA (flatE ap)
 clo:OwnI w base 3 C cC cl
 clr:∀x∈cl,I64 x
 lo:base<=g
 oil:∀o∈ap,IL w o.A o.c o.e.ins/\(o.e.ins≠[]->∀b,o.A.map (·.block)=some b->¬deskB g A C b)
namespace RdK
variable {w w':World} {base g cA cC:Nat} {A C:Option Addr} {ap:List Oe} {cl:List Int} {H:Value}
theorem ext (h:RdK w base g A cA ap C cC cl H)(x:Ext w w'):RdK w' base g A cA ap C cC cl H:=
 ⟨h.blk.ext x,OwnS.ext h.apo x,OwnS.ext h.clo x,h.clr,h.lo,fun o ho=>⟨(h.oil o ho).1.ext x,(h.oil o ho).2⟩⟩
theorem low (h:RdK w base g A cA ap C cC cl H){b:Nat}(hb:deskB g A C b):base<=b:=by
 rcases hb with rfl|hb|hb
 ·exact h.lo
 ·exact OwnS.row h.apo b hb
 ·exact OwnS.row h.clo b hb
theorem nA (h:RdK w base g A cA ap C cC cl H):A.map (·.block)≠some g:=fun e=>by
 obtain⟨_,cur,hh⟩:=OwnS.blt h.apo e;have:=h.blk;unfold Blk at this;rw[this] at hh;injection hh with hh;injection hh with _ h2;revert h2;decide
theorem nC (h:RdK w base g A cA ap C cC cl H):C.map (·.block)≠some g:=fun e=>by
 obtain⟨_,cur,hh⟩:=OwnS.blt h.clo e;have:=h.blk;unfold Blk at this;rw[this] at hh;injection hh with hh;injection hh with _ h2;revert h2;decide
theorem nAC (h:RdK w base g A cA ap C cC cl H){b:Nat}(hb:A.map (·.block)=some b):C.map (·.block)≠some b:=fun e=>by
 obtain⟨_,cur,hh⟩:=OwnS.blt h.apo hb;obtain⟨_,cur2,hh2⟩:=OwnS.blt h.clo e;rw[hh] at hh2;injection hh2 with hh2;injection hh2 with _ h2;revert h2;decide
theorem setH (h:RdK w base g A cA ap C cC cl H)(v:Value):RdK (w.setCell ⟨g,2,none⟩ v) base g A cA ap C cC cl v/\KpP (·=g) w (w.setCell ⟨g,2,none⟩ v):=by
 have kk:KpP (·=g) w (w.setCell ⟨g,2,none⟩ v):=KpP.set (p:=(·=g)) (KpP.refl _ _) (.inl rfl) _;have h1:=h.blk.set 2 v;simp only[List.setIfInBounds_toArray,List.set_cons_zero,List.set_cons_succ] at h1;exact⟨⟨h1,OwnS.kp h.apo kk (fun b hb e=>h.nA (by rw[hb,e])),OwnS.kp h.clo kk (fun b hb e=>h.nC (by rw[hb,e])),h.clr,h.lo,fun o ho=>⟨(h.oil o ho).1.kp kk (fun hx b hb e=>(h.oil o ho).2 hx b hb (.inl e)),(h.oil o ho).2⟩⟩,kk⟩
theorem app (h:RdK w base g A cA ap C cC cl H){w1:World}{A':Option Addr}{cA':Nat}{o:Oe}(hg:w.grownBy w1 (A.map (·.block)))(ho:OwnS w1 base 55 3 A' (ap.length+1) cA' (flatE ap++flatE [o]))
 (hat:A'.map (·.block)=A.map (·.block)\/A'.map (·.block)=some w.heap.size) (hx:Ext w1 w') (hi:IL w o.A o.c o.e.ins) (hn:o.e.ins≠[]->∀b,o.A.map (·.block)=some b->¬deskB g A C b) :
 RdK (w'.setCell ⟨g,0,none⟩ (.slice A' (ap.length+1) cA')) base g A' cA' (ap++[o]) C cC cl H/\KpP (deskB g A C) w (w'.setCell ⟨g,0,none⟩ (.slice A' (ap.length+1) cA'))/\Later (deskB g A C) (deskB g A' C) w.heap.size:=by
 have kg:=KpP.of_grown hg;have kx:KpP (fun b=>A.map (·.block)=some b) w w':=kg.trans (KpP.of_ext hx);have kk:KpP (deskB g A C) w (w'.setCell ⟨g,0,none⟩ (.slice A' (ap.length+1) cA')):=(kx.mono (fun b hb=>.inr (.inl hb))).set (.inl (.inl rfl)) _;have hla:Later (deskB g A C) (deskB g A' C) w.heap.size:=fun b hb=>by
  rcases hb with rfl|hb|hb
  ·exact .inl (.inl rfl)
  ·rcases hat with e|e
   ·exact .inl (.inr (.inl (e.symm.trans hb)))
   ·rw[e] at hb;injection hb with hb;right;omega
  ·exact .inl (.inr (.inr hb))
 have hgl:=h.blk.lt;have hA':A'.map (·.block)≠some g:=fun e=>by
  rcases hat with e2|e2
  ·exact h.nA (e2.symm.trans e)
  ·rw[e2] at e;injection e with e;omega
 have hb1:=kx.blk h.blk (fun e=>h.nA e);refine⟨⟨?_,?_,?_,h.clr,h.lo,fun z hz=>?_⟩,kk,hla⟩
 ·have:=hb1.set 0 (.slice A' (ap.length+1) cA');simp only[List.setIfInBounds_toArray,List.set_cons_zero] at this
  simpa using this
 ·have:=OwnS.far (OwnS.ext ho hx) (p:=⟨g,0,none⟩) hA' (.slice A' (ap.length+1) cA');rw[List.length_append,flatE_append];exact this
 ·refine OwnS.far (OwnS.kp h.clo kx (fun b hb e=>h.nAC e hb)) (p:=⟨g,0,none⟩) h.nC _
 ·have h1:IL w z.A z.c z.e.ins/\(z.e.ins≠[]->∀b,z.A.map (·.block)=some b->¬deskB g A C b):=by
   rcases List.mem_append.1 hz with hz|hz
   ·exact h.oil z hz
   ·obtain rfl:=List.mem_singleton.1 hz;exact⟨hi,hn⟩
  exact h1.1.later h1.2 kk hla
theorem cli (h:RdK w base g A cA ap C cC cl H){w1:World}{C':Option Addr}{cC':Nat}{v:Int}(hg:w.grownBy w1 (C.map (·.block)))(ho:OwnS w1 base 3 1 C' (cl.length+1) cC' (cl.map (Value.int .i64)++[.int .i64 v]))
 (hat:C'.map (·.block)=C.map (·.block)\/∃n,w.heap.size<=n/\C'.map (·.block)=some n) (hx:Ext w1 w') (hv:I64 v) :
 RdK (w'.setCell ⟨g,1,none⟩ (.slice C' (cl.length+1) cC')) base g A cA ap C' cC' (cl++[v]) H/\KpP (deskB g A C) w (w'.setCell ⟨g,1,none⟩ (.slice C' (cl.length+1) cC'))/\Later (deskB g A C) (deskB g A C') w.heap.size:=by
 have kg:=KpP.of_grown hg;have kx:KpP (fun b=>C.map (·.block)=some b) w w':=kg.trans (KpP.of_ext hx);have kk:KpP (deskB g A C) w (w'.setCell ⟨g,1,none⟩ (.slice C' (cl.length+1) cC')):=(kx.mono (fun b hb=>.inr (.inr hb))).set (.inl (.inl rfl)) _;have hla:Later (deskB g A C) (deskB g A C') w.heap.size:=fun b hb=>by
  rcases hb with rfl|hb|hb
  ·exact .inl (.inl rfl)
  ·exact .inl (.inr (.inl hb))
  ·rcases hat with e|⟨n,hn,e⟩
   ·exact .inl (.inr (.inr (e.symm.trans hb)))
   ·rw[e] at hb;injection hb with hb;right;omega
 have hgl:=h.blk.lt;have hC':C'.map (·.block)≠some g:=fun e=>by
  rcases hat with e2|⟨n,hn,e2⟩
  ·exact h.nC (e2.symm.trans e)
  ·rw[e2] at e;injection e with e;omega
 have hb1:=kx.blk h.blk (fun e=>h.nC e);refine⟨⟨?_,?_,?_,fun y hy=>?_,h.lo,fun z hz=>(h.oil z hz).1.later (h.oil z hz).2 kk hla⟩,kk,hla⟩
 ·have:=hb1.set 1 (.slice C' (cl.length+1) cC');simp only[List.setIfInBounds_toArray,List.set_cons_zero,List.set_cons_succ] at this
  simpa using this
 ·refine OwnS.far (OwnS.kp h.apo kx (fun b hb e=>h.nAC hb e)) (p:=⟨g,1,none⟩) h.nA _
 ·have:=OwnS.far (OwnS.ext ho hx) (p:=⟨g,1,none⟩) hC' (.slice C' (cl.length+1) cC');unfold OwnI;rw[List.length_append,List.map_append];exact this
 ·rcases List.mem_append.1 hy with hy|hy
  ·exact h.clr y hy
  ·obtain rfl:=List.mem_singleton.1 hy;exact hv
end RdK
theorem infoRT:(Tryz.prog.info? 22).map (fun i=>(i.zero,i.size,i.bytes))=some (some (.slice none 0 0),1,24):=by kernel_rfl
structure Tx where
 A:Option Addr
 c:Nat
 l:List Int
def flatT (l:List Tx):List Value:=l.map fun t=>.slice t.A t.l.length t.c
theorem flatT_append (l m:List Tx):flatT (l++m)=flatT l++flatT m:=by simp[flatT]
theorem flatT_len (l:List Tx):(flatT l).length=l.length*1:=by simp[flatT]
theorem flatT_one (l:List Tx):∀u∈flatT l,u.oneCell'=true:=by
 intro u hu;obtain⟨t,_,rfl⟩:=List.mem_map.1 hu
 rfl
def mkB (gm g:Nat)(A C I X:Option Addr)(b:Nat):Prop:=b=gm\/deskB g A C b\/I.map (·.block)=some b\/X.map (·.block)=some b
structure MkD (w:World)(base gm g:Nat)(A:Option Addr)(cA:Nat)(C:Option Addr)(cC:Nat)(I:Option Addr)(cI:Nat)(X:Option Addr)(cX:Nat)(its:List Hv)(es:List Oe)(cl:List Int)(txs:List Tx):Prop where
 blk:Blk w gm 44 #[.slice I its.length cI,.slice X txs.length cX]
 desk:RdK w base g A cA es C cC cl (.slice none 0 0)
 ito:OwnS w base 59 6 I its.length cI (flatI its)
 txo:OwnS w base 22 1 X txs.length cX (flatT txs)
 lo:base<=gm
 il:∀h∈its,IL w h.A h.c h.it.e.ins/\(h.it.e.ins≠[]->∀b,h.A.map (·.block)=some b->¬mkB gm g A C I X b)
 el:∀o∈es,IL w o.A o.c o.e.ins/\(o.e.ins≠[]->∀b,o.A.map (·.block)=some b->¬mkB gm g A C I X b)
 tl:∀t∈txs,IL w t.A t.c t.l/\(t.l≠[]->∀b,t.A.map (·.block)=some b->¬mkB gm g A C I X b)
namespace MkD
variable {w w':World} {base gm g cA cC cI cX:Nat} {A C I X:Option Addr} {its:List Hv} {es:List Oe} {cl:List Int} {txs:List Tx}
theorem ext (h:MkD w base gm g A cA C cC I cI X cX its es cl txs)(x:Ext w w'):MkD w' base gm g A cA C cC I cI X cX its es cl txs:=
 ⟨h.blk.ext x,h.desk.ext x,OwnS.ext h.ito x,OwnS.ext h.txo x,h.lo,fun z hz=>⟨(h.il z hz).1.ext x,(h.il z hz).2⟩,fun z hz=>⟨(h.el z hz).1.ext x,(h.el z hz).2⟩,fun z hz=>⟨(h.tl z hz).1.ext x,(h.tl z hz).2⟩⟩
theorem low (h:MkD w base gm g A cA C cC I cI X cX its es cl txs){b:Nat}(hb:mkB gm g A C I X b):base<=b:=by
 rcases hb with rfl|hb|hb|hb
 ·exact h.lo
 ·exact h.desk.low hb
 ·exact OwnS.row h.ito b hb
 ·exact OwnS.row h.txo b hb
theorem nGm (h:MkD w base gm g A cA C cC I cI X cX its es cl txs):¬deskB g A C gm:=by
 rintro(e|e|e)
 ·exact blk_blk h.blk h.desk.blk de e
 ·exact own_blk h.desk.apo h.blk de e
 ·exact own_blk h.desk.clo h.blk de e
theorem nI (h:MkD w base gm g A cA C cC I cI X cX its es cl txs){b:Nat}(hb:I.map (·.block)=some b):¬deskB g A C b:=by
 rintro(rfl|e|e)
 ·exact own_blk h.ito h.desk.blk de hb
 ·exact own_ne h.ito h.desk.apo de hb e
 ·exact own_ne h.ito h.desk.clo de hb e
theorem nX (h:MkD w base gm g A cA C cC I cI X cX its es cl txs){b:Nat}(hb:X.map (·.block)=some b):¬deskB g A C b:=by
 rintro(rfl|e|e)
 ·exact own_blk h.txo h.desk.blk de hb
 ·exact own_ne h.txo h.desk.apo de hb e
 ·exact own_ne h.txo h.desk.clo de hb e
theorem take (h:MkD w base gm g A cA C cC I cI X cX its es cl txs){A' C':Option Addr}{cA' cC':Nat}{o:Oe}{c:Int}(hD:RdK w' base g A' cA' (es++[o]) C' cC' (cl++[c]) (.slice none 0 0))(k:KpP (deskB g A C) w w')(hl:Later (deskB g A C) (deskB g A' C') w.heap.size)
 (hi:IL w o.A o.c o.e.ins) (hn:o.e.ins≠[]->∀b,o.A.map (·.block)=some b->¬mkB gm g A C I X b):MkD w' base gm g A' cA' C' cC' I cI X cX its (es++[o]) (cl++[c]) txs:=by
 have kk:KpP (mkB gm g A C I X) w w':=k.mono (fun b hb=>.inr (.inl hb));have hla:Later (mkB gm g A C I X) (mkB gm g A' C' I X) w.heap.size:=fun b hb=>by
  rcases hb with hb|hb|hb|hb
  ·exact .inl (.inl hb)
  ·exact(hl b hb).imp (fun h=>.inr (.inl h)) id
  ·exact .inl (.inr (.inr (.inl hb)))
  ·exact .inl (.inr (.inr (.inr hb)))
 refine⟨k.blk h.blk h.nGm,hD,OwnS.kp h.ito k (fun b hb=>h.nI hb),OwnS.kp h.txo k (fun b hb=>h.nX hb),h.lo,fun z hz=>(h.il z hz).1.later (h.il z hz).2 kk hla,fun z hz=>?_,fun z hz=>(h.tl z hz).1.later (h.tl z hz).2 kk hla⟩;rcases List.mem_append.1 hz with hz|hz
 ·exact(h.el z hz).1.later (h.el z hz).2 kk hla
 ·obtain rfl:=List.mem_singleton.1 hz;exact hi.later hn kk hla
theorem deskKp (h:MkD w base gm g A cA C cC I cI X cX its es cl txs){p:Nat->Prop}(k:KpP p w w')(hp:∀b,p b->mkB gm g A C I X b/\¬deskB g A C b):RdK w' base g A cA es C cC cl (.slice none 0 0):=
 ⟨k.blk h.desk.blk (fun hb=>(hp _ hb).2 (.inl rfl)),OwnS.kp h.desk.apo k (fun b hb hq=>(hp _ hq).2 (.inr (.inl hb))),OwnS.kp h.desk.clo k (fun b hb hq=>(hp _ hq).2 (.inr (.inr hb))),h.desk.clr,h.desk.lo,
  fun o ho=>⟨(h.el o ho).1.kp k (fun hx b hb hq=>(h.el o ho).2 hx b hb (hp _ hq).1),(h.desk.oil o ho).2⟩⟩
theorem item (h:MkD w base gm g A cA C cC I cI X cX its es cl txs){w1:World}{I':Option Addr}{cI':Nat}{z:Hv}(hg:w.grownBy w1 (I.map (·.block)))(ho:OwnS w1 base 59 6 I' (its.length+1) cI' (flatI its++flatI [z]))
 (hat:I'.map (·.block)=I.map (·.block)\/I'.map (·.block)=some w.heap.size) (hx:Ext w1 w') (hi:IL w z.A z.c z.it.e.ins) (hn:z.it.e.ins≠[]->∀b,z.A.map (·.block)=some b->¬mkB gm g A C I X b) :
 MkD (w'.setCell ⟨gm,0,none⟩ (.slice I' (its.length+1) cI')) base gm g A cA C cC I' cI' X cX (its++[z]) es cl txs:=by
 have kx:KpP (fun b=>I.map (·.block)=some b) w w':=(KpP.of_grown hg).trans (KpP.of_ext hx);have k2:KpP (fun b=>b=gm\/I.map (·.block)=some b) w (w'.setCell ⟨gm,0,none⟩ (.slice I' (its.length+1) cI')):=(kx.mono (fun b hb=>.inr hb)).set (.inl (.inl rfl)) _;have kk:KpP (mkB gm g A C I X) w _:=k2.mono (fun b hb=>hb.elim (fun e=>.inl e) (fun e=>.inr (.inr (.inl e))));have hla:Later (mkB gm g A C I X) (mkB gm g A C I' X) w.heap.size:=fun b hb=>by
  rcases hb with hb|hb|hb|hb
  ·exact .inl (.inl hb)
  ·exact .inl (.inr (.inl hb))
  ·rcases hat with e|e
   ·exact .inl (.inr (.inr (.inl (e.symm.trans hb))))
   ·rw[e] at hb;injection hb with hb;right;omega
  ·exact .inl (.inr (.inr (.inr hb)))
 have hgl:=h.blk.lt;have hIg:I.map (·.block)≠some gm:=own_blk h.ito h.blk de;have hI':I'.map (·.block)≠some gm:=fun e=>by
  rcases hat with e2|e2
  ·exact hIg (e2.symm.trans e)
  ·rw[e2] at e;injection e with e;omega
 have hb1:=kx.blk h.blk hIg;refine⟨?_,h.deskKp k2 (fun b hb=>?_),?_,OwnS.kp h.txo k2 (fun b hb hor=>?_),h.lo,fun y hy=>?_,fun y hy=>(h.el y hy).1.later (h.el y hy).2 kk hla,fun y hy=>(h.tl y hy).1.later (h.tl y hy).2 kk hla⟩
 ·have:=hb1.set 0 (.slice I' (its.length+1) cI');simp only[List.setIfInBounds_toArray,List.set_cons_zero] at this
  simpa using this
 ·rcases hb with rfl|hb
  ·exact⟨.inl rfl,h.nGm⟩
  ·exact⟨.inr (.inr (.inl hb)),h.nI hb⟩
 ·have:=OwnS.far (OwnS.ext ho hx) (p:=⟨gm,0,none⟩) hI' (.slice I' (its.length+1) cI');rw[List.length_append,flatI_append];exact this
 ·rcases hor with rfl|hor
  ·exact own_blk h.txo h.blk de hb
  ·exact own_ne h.ito h.txo de hor hb
 ·rcases List.mem_append.1 hy with hy|hy
  ·exact(h.il y hy).1.later (h.il y hy).2 kk hla
  ·obtain rfl:=List.mem_singleton.1 hy;exact hi.later hn kk hla
theorem text (h:MkD w base gm g A cA C cC I cI X cX its es cl txs){w1:World}{X':Option Addr}{cX':Nat}{t:Tx}(hg:w.grownBy w1 (X.map (·.block)))(ho:OwnS w1 base 22 1 X' (txs.length+1) cX' (flatT txs++flatT [t]))
 (hat:X'.map (·.block)=X.map (·.block)\/X'.map (·.block)=some w.heap.size) (hx:Ext w1 w') (hi:IL w t.A t.c t.l) (hn:t.l≠[]->∀b,t.A.map (·.block)=some b->¬mkB gm g A C I X b) :
 MkD (w'.setCell ⟨gm,1,none⟩ (.slice X' (txs.length+1) cX')) base gm g A cA C cC I cI X' cX' its es cl (txs++[t]):=by
 have kx:KpP (fun b=>X.map (·.block)=some b) w w':=(KpP.of_grown hg).trans (KpP.of_ext hx);have k2:KpP (fun b=>b=gm\/X.map (·.block)=some b) w (w'.setCell ⟨gm,1,none⟩ (.slice X' (txs.length+1) cX')):=(kx.mono (fun b hb=>.inr hb)).set (.inl (.inl rfl)) _;have kk:KpP (mkB gm g A C I X) w _:=k2.mono (fun b hb=>hb.elim (fun e=>.inl e) (fun e=>.inr (.inr (.inr e))));have hla:Later (mkB gm g A C I X) (mkB gm g A C I X') w.heap.size:=fun b hb=>by
  rcases hb with hb|hb|hb|hb
  ·exact .inl (.inl hb)
  ·exact .inl (.inr (.inl hb))
  ·exact .inl (.inr (.inr (.inl hb)))
  ·rcases hat with e|e
   ·exact .inl (.inr (.inr (.inr (e.symm.trans hb))))
   ·rw[e] at hb;injection hb with hb;right;omega
 have hgl:=h.blk.lt;have hXg:X.map (·.block)≠some gm:=own_blk h.txo h.blk de;have hX':X'.map (·.block)≠some gm:=fun e=>by
  rcases hat with e2|e2
  ·exact hXg (e2.symm.trans e)
  ·rw[e2] at e;injection e with e;omega
 have hb1:=kx.blk h.blk hXg;refine⟨?_,h.deskKp k2 (fun b hb=>?_),OwnS.kp h.ito k2 (fun b hb hor=>?_),?_,h.lo,fun y hy=>(h.il y hy).1.later (h.il y hy).2 kk hla,fun y hy=>(h.el y hy).1.later (h.el y hy).2 kk hla,fun y hy=>?_⟩
 ·have:=hb1.set 1 (.slice X' (txs.length+1) cX');simp only[List.setIfInBounds_toArray,List.set_cons_zero,List.set_cons_succ] at this
  simpa using this
 ·rcases hb with rfl|hb
  ·exact⟨.inl rfl,h.nGm⟩
  ·exact⟨.inr (.inr (.inr hb)),h.nX hb⟩
 ·rcases hor with rfl|hor
  ·exact own_blk h.ito h.blk de hb
  ·exact own_ne h.ito h.txo de hb hor
 ·have:=OwnS.far (OwnS.ext ho hx) (p:=⟨gm,1,none⟩) hX' (.slice X' (txs.length+1) cX');rw[List.length_append,flatT_append];exact this
 ·rcases List.mem_append.1 hy with hy|hy
  ·exact(h.tl y hy).1.later (h.tl y hy).2 kk hla
  ·obtain rfl:=List.mem_singleton.1 hy;exact hi.later hn kk hla
end MkD
theorem take_one (t:List Int)(k:Nat)(h:k<t.length):t.take (k+1)=t.take k++[t[k]]:=List.take_succ_eq_append_getElem h
theorem drop_take_one (t:List Int)(m k:Nat)(hm:m<=k)(h:k<t.length):(t.drop m).take (k+1-m)=(t.drop m).take (k-m)++[t[k]]:=by
 have e:k+1-m=(k-m)+1:=om;rw[e,List.take_succ_eq_append_getElem (by simp;omega)]
 congr 2
 rw[List.getElem_drop]
 congr 1;omega
theorem rSplice_any (T:Option Addr)(tc:Nat)(t:List Int)(a d:Int)(A:Option Addr)(c:Nat)(l:List Int)(w:World)(ht:IL w T tc t)(hl:IL w A c l)
 (hlen:t.length<=1000000000) (hlen2:l.length<=1000000000) (h1:0<=a) (h2:0<=d) (h3:a+d<=t.length) :
 Calls Tryz.prog 59 #[.slice T t.length tc,.agg #[.int .i64 a,.int .i64 d,.slice A l.length c]] w (RetIL (spliceL t a d l) w):=by
 obtain⟨i0,hi0,hz0,hz1,hz2⟩:=info_parts infoInt;obtain⟨an,rfl⟩:∃n:Nat,a=n:=⟨a.toNat,om⟩;obtain⟨dn,rfl⟩:∃n:Nat,d=n:=⟨d.toNat,om⟩;obtain⟨m,hm⟩:∃m:Nat,(an:Int)+(dn:Int)=(m:Int):=⟨an+dn,om⟩;have HSL:=lh (show spliceL t an dn l=(t.take an++l)++(t.drop m).take (t.length-m) by
  have e:(t.drop m).take (t.length-m)=t.drop m:=List.take_of_length_le si;rw[e];simp[spliceL,hm])
 obtain⟨a1,a2⟩:=ht.len;obtain⟨B0,X0⟩:=alloc1 w 55 #[.int .i64 an,.int .i64 dn,.slice A l.length c];have hrt:=ht.rng;have hrl:=hl.rng;have hm1:an<=m:=om;have hm2:m<=t.length:=om;go_enter Tryz.func59,Tryz.ntmps59
 go_wp2
 generalize hW:w.alloc (.cells #[.int .i64 an,.int .i64 dn,.slice A l.length c] 55)=W at *;have hg0:w.heap.size<W.heap.size:=by rw[<-hW];simp
 clear hW;replace ht:=ht.ext X0;replace hl:=hl.ext X0;generalize hg:w.heap.size=g at *
 go_loopw [5,6] (fun v i wr=>∃(k:Nat) (A':Option Addr) (c':Nat) (xs:List Int),k<=an/\i=.int .i64 k/\Hid (xs=t.take k)/\v=.slice A' xs.length c'/\OwnI wr W.heap.size 3 A' c' xs/\Ext W wr) (fun _ i _=>an-(intOf i).toNat)
 case atStart=>exact⟨0,none,0,[],Nat.zero_le _,rfl,rfl,rfl,OwnS.nil _ _ _ _,Ext.rfl' _⟩
 case round=>
  obtain⟨k,A',c',xs,hk,rfl,hxs,rfl,hown,hext⟩:=hrel;obtain⟨p0,p1,p2,_,_,_,pz⟩:=(B0.ext hext).c3;have hxl:xs.length<=1000000000:=by rw[hxs.out];simp;omega
  by_cases hlt:k<an
  ·obtain⟨pb,po,rfl,g1⟩:=(ht.ext hext).get (show k<t.length by omega);have hb1:=World.block_lt_of_cell? _ _ g1;have hlt2:(k:Int)<an:=om;have hlt3:k<t.length:=om;have hlt4:(k:Int)<t.length:=om;have HS:=lh (show t.take (k+1)=xs++[t[k]] by rw[hxs.out];exact take_one t k hlt3);clear hxs;generalize t[k]=x at *;obtain⟨ys,hys⟩:∃ys,ys=t.take (k+1):=⟨_,rfl⟩;have HY:=lh hys;have HY2:=lh (hys.trans HS.out);clear hys HS
   go_wp2_with ((at_builtin;refine wpList_app1I (w1:=wr) rfl _ _ _ rfl 3 infoInt Tryz.underlying22 W hext x rfl A' c' xs rfl hown rfl om ys HY2.out ?_;intro A2 c2 w2 hown2 hext2 _ _))
   go_roundw
   case rel=>exact⟨k+1,A2,c2,ys,om,by go_num,HY,rfl,hown2,hext2⟩
   case measure=>simp[intOf];omega
  ·have hk':k=an:=om;subst hk';have H63:=lh (show xs.length+l.length<=maxLen by unfold maxLen;omega);have H8:=lh (show(xs.length+l.length)*8<=140737488355328 by omega);have HCL:=lh (hl.ext hext).cells;have H1:=lh (ints_one l);have HSZ:=lh hext.size;have HO:=lh hown;have hzz:g<wr.heap.size:=pz;unfold OwnI at HO;clear hown
   go_wp2_with ((at_builtin;refine wpList_app _ rfl _ _ _ rfl W.heap.size 3 i0 (.int .i64 0) 1 8 Tryz.underlying22 hi0 hz0 hz1 hz2 rfl om _ xs.length c' (xs.map (Value.int .i64)) rfl HO.out _ l.length c (l.map (Value.int .i64)) rfl si HCL.out H1.out H63.out H8.out HSZ.out ?_;intro A2 c2 w2 hown2 hg2 _;have hext2:=hext.app HO.out hg2;have B2:=B0.ext hext2;obtain⟨q0,q1,q2,_,_,_,qz⟩:=B2.c3))
   obtain⟨zs,hzs⟩:∃zs,zs=xs++l:=⟨_,rfl⟩;have hzl:zs.length=xs.length+l.length:=by rw[hzs];simp
   have hzl2:zs.length<=2000000000:=om;have HZ:=lh (show zs=t.take k++l by rw[hzs,hxs.out]);replace hown2:OwnI w2 W.heap.size 3 A2 c2 zs:=by unfold OwnI;rw[hzl,hzs,List.map_append];exact hown2
   have HZL:=lh hzl.symm;rw[HZL.out];clear hzs hzl H63 H8 HCL H1 HSZ HO hg2 p0 p1 p2 hext hxs hzz HZL
   go_loopw [5,7] (fun v i wr=>∃(j:Nat) (A':Option Addr) (c':Nat) (xs:List Int),m<=j/\j<=t.length/\i=.int .i64 j/\Hid (xs=zs++(t.drop m).take (j-m))/\v=.slice A' xs.length c'/\OwnI wr W.heap.size 3 A' c' xs/\Ext W wr) (fun _ i _=>t.length-(intOf i).toNat)
   case atStart=>exact⟨m,A2,c2,zs,Nat.le_refl _,hm2,by(first|rw[hm]|rfl),lh si,rfl,hown2,hext2⟩
   case round=>
    clear hown2 hext2;obtain⟨j,A',c',ys,hj1,hj2,rfl,hys,rfl,hown,hext⟩:=hrel;have hyl:ys.length<=4000000000:=by rw[hys.out];simp;omega
    by_cases hlt':j<t.length
    ·obtain⟨pb,po,rfl,g1⟩:=(ht.ext hext).get hlt';have hb1:=World.block_lt_of_cell? _ _ g1;have hlt2:(j:Int)<t.length:=om;have HS:=lh (show zs++(t.drop m).take (j+1-m)=ys++[t[j]] by rw[hys.out,drop_take_one t m j hj1 hlt',List.append_assoc]);clear hys;generalize t[j]=x at *;obtain⟨us,hus⟩:∃us,us=zs++(t.drop m).take (j+1-m):=⟨_,rfl⟩;have HY:=lh hus;have HY2:=lh (hus.trans HS.out);clear hus HS
     go_wp2_with ((at_builtin;refine wpList_app1I (w1:=wr) rfl _ _ _ rfl 3 infoInt Tryz.underlying22 W hext x rfl A' c' ys rfl hown rfl om us HY2.out ?_;intro A2 c2 w2 hown2 hext2 _ _))
     go_roundw
     case rel=>exact⟨j+1,A2,c2,us,om,om,by go_num,HY,rfl,hown2,hext2⟩
     case measure=>simp[intOf];omega
    ·have hj':j=t.length:=om;subst hj';have HF:=lh (show ys=spliceL t k dn l by rw[hys.out,HZ.out,HSL.out]);have hrng:∀x∈ys,I64 x:=by
      intro x hx;rw[HF.out] at hx;simp only[spliceL,List.mem_append] at hx;rcases hx with(hx|hx)|hx
      ·exact hrt x (List.mem_of_mem_take hx)
      ·exact hrl x hx
      ·exact hrt x (List.mem_of_mem_drop hx)
     have HR:=lh hrng;clear hrng hys HZ HSL
     go_wp2
     go_ret
     exact⟨A',c',by rw[<-HF.out];rfl,by rw[<-HF.out];exact IL.of_own hown HR.out,X0.trans hext,fun b hb=>Nat.le_trans X0.size (OwnS.row hown b hb)⟩
theorem steps_lone {s s':Ds}{out:List Oe}{p:(Int×Int)×Hv}(h:Steps s out s')(hs:s.hd=[p]):(out=[]/\s'=s)\/(out=[outOf s p]/\s'=stepOf s p):=by
 induction h with
 | refl=>exact .inl ⟨rfl,rfl⟩
 | snoc q _ hq _ _ ih=>
  rcases ih with⟨rfl,rfl⟩|⟨rfl,rfl⟩
  ·rw[hs] at hq;obtain rfl:=List.mem_singleton.1 hq;exact .inr ⟨rfl,rfl⟩
  ·simp[stepOf,hs,delL] at hq
theorem steps_one {s s':Ds}{out:List Oe}{p:(Int×Int)×Hv}(h:Steps s out s')(hs:s.hd=[p])(hr:isRdy s.nx s.ap.length p)(hn:noRdy s'):out=[outOf s p]/\s'=stepOf s p:=by
 rcases steps_lone h hs with⟨_,rfl⟩|h
 ·exact absurd hr (hn p (by rw[hs];simp))
 ·exact h
structure TxI (its:List It)(es:List Ed)(i:Nat)(s:Ds):Prop where
 ap:s.ap=(es.take i).map extE
 nx:∀c,nxOf s.nx c=cntC (its.take i) c
 hd:s.hd=[]
theorem TxI.start (its:List It)(es:List Ed):TxI its es 0 ⟨[],[],[]⟩:=⟨by simp,fun c=>by simp[nxOf,at?,cntC],rfl⟩
theorem Mk.sized {its:List It}{es:List Ed}{txs:List (List Int)}(h:Mk its es txs)(hl:its.length<=16){i:Nat}(hi:i<its.length) :
 EdOf (txs.getD i []).length (es.getD i ed0)/\(txs.getD i []).length<=88/\(es.getD i ed0).ins=(its.getD i it0).e.ins/\(es.getD i ed0).ins.length<=3/\(∀y∈(es.getD i ed0).ins,0<=y/\y<=200):=by
 have h2:=h.sz i om;obtain⟨b,_,_,_,h3⟩:=h.bs i hi;have h4:=(h.cl i hi).2.2.2;have h5:=(overAll_moved ((es.take i).drop b) (its.getD i it0).e).2
 rw[<-h3] at h5;exact⟨h.ed i hi,om,h5,by rw[h5];exact h4,by rw[h5];exact h.iv i hi⟩
theorem Mk.itOk {its:List It}{es:List Ed}{txs:List (List Int)}(h:Mk its es txs)(hl:its.length<=16){i:Nat}(hi:i<its.length):ItOk (its.getD i it0):=by
 obtain⟨b,hb,hbi,he,_⟩:=h.bs i hi;obtain⟨c1,c2,c3,c4⟩:=h.cl i hi;have h2:=h.sz b om;have hc:cntC (its.take i) (its.getD i it0).client<=i:=by
  unfold cntC;have:=List.length_filter_le (fun x:It=>x.client == (its.getD i it0).client) (its.take i);rw[List.length_take] at this;omega
 refine⟨c1,om,om,om,om,om,formed_of he om om⟩
theorem TxI.rdy {its:List It}{es:List Ed}{txs:List (List Int)}(h:Mk its es txs){i:Nat}{s:Ds}(hs:TxI its es i s)(hi:i<its.length)(B:Option Addr)(d:Nat) :
 isRdy s.nx s.ap.length (((its.getD i it0).client,(its.getD i it0).number),⟨its.getD i it0,B,d⟩):=by
 obtain⟨b,hb,hbi,_,_⟩:=h.bs i hi;have hle:=h.le;refine⟨?_,?_⟩
 ·simp only
  rw[hs.nx,(h.cl i hi).2.2.1]
 ·simp only
  rw[hs.ap,List.length_map,List.length_take,hb];omega
theorem TxI.step {its:List It}{es:List Ed}{txs:List (List Int)}(h:Mk its es txs){i:Nat}{s:Ds}(hs:TxI its es i s)(hi:i<its.length)(B:Option Addr)(d:Nat) :
 TxI its es (i+1) (stepOf ⟨s.ap,s.nx,[(((its.getD i it0).client,(its.getD i it0).number),⟨its.getD i it0,B,d⟩)]⟩ (((its.getD i it0).client,(its.getD i it0).number),⟨its.getD i it0,B,d⟩))/\
 outOf ⟨s.ap,s.nx,[(((its.getD i it0).client,(its.getD i it0).number),⟨its.getD i it0,B,d⟩)]⟩ (((its.getD i it0).client,(its.getD i it0).number),⟨its.getD i it0,B,d⟩)=⟨es.getD i ed0,B,d⟩:=by
 obtain⟨b,hb,hbi,_,he⟩:=h.bs i hi;have hle:=h.le;have hie:i<es.length:=om;have hm:movedOf ⟨s.ap,s.nx,[(((its.getD i it0).client,(its.getD i it0).number),⟨its.getD i it0,B,d⟩)]⟩ ⟨its.getD i it0,B,d⟩=((es.getD i ed0).at_,(es.getD i ed0).del):=by
  unfold movedOf
  simp only
  rw[hs.ap,hb,Int.toNat_natCast,<-List.map_drop,(overAll_moved _ _).1,<-he]
 have hins:(its.getD i it0).e.ins=(es.getD i ed0).ins:=by
  rw[he];exact(overAll_moved _ _).2.symm
 refine⟨⟨?_,fun c=>?_,?_⟩,?_⟩
 ·show s.ap++[((movedOf _ _).1,(movedOf _ _).2,(((its.getD i it0).e.ins.length:Nat):Int))]=_
  rw[hm,hins,hs.ap,List.take_succ_eq_append_getElem hie,List.map_append,getD_get _ _ _ hie]
  rfl
 ·simp only[stepOf];rw[nxOf_put,cntC_succ its c i hi,getD_get _ _ _ hi];by_cases hc:c=its[i].client
  ·subst hc;rw[if_pos rfl,if_pos rfl,hs.nx];simp
  ·rw[if_neg hc,if_neg (fun e=>hc e.symm),hs.nx];simp
 ·simp[stepOf,delL]
 ·simp only[outOf,hm,hins]
end
section
open Go.RowKit
attribute [local go_sem ↓] Go.wp_at_zero Go.wp_at_succ
structure BL (w:World)(A:Option Addr)(c:Nat)(bs:List Int):Prop where
 le:bs.length<=c
 cap:c<=maxLen
 rng:∀x∈bs,U8 x
 at_:bs≠[]->∃b o,A=some ⟨b,o,none⟩/\∀i (h:i<bs.length),w.cell? ⟨b,o+i,none⟩=some (.int .u8 bs[i])
namespace BL
variable {w w':World} {A:Option Addr} {c:Nat} {bs:List Int}
theorem ext (h:BL w A c bs)(k:Ext w w'):BL w' A c bs:=by
 refine⟨h.le,h.cap,h.rng,fun hn=>?_⟩;obtain⟨b,o,rfl,hc⟩:=h.at_ hn;exact⟨b,o,rfl,fun i hi=>k.cell (hc i hi)⟩
end BL
end
section
open Go.RowKit
end
end Go.Proofs.YtmpcoifnpflapaaGreat
