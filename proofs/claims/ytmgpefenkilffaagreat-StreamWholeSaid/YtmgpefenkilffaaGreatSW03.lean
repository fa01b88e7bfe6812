/- Texts of this proof: P3 P4 K1 K2 K3 K14 U0 P6 U1 E3 E4 E5 Fx Ed J1 C0 J2 JT E6o E6 V9 VI V3 R1 Hp. -/
import Derived.Test.YtmgpefenkilffaaGreatSW00
import Derived.Deep.DrawnRows
import Derived.Laws.BytesArg
import Derived.Laws.StructEq
set_option linter.all false
set_option maxRecDepth 100000
set_option maxHeartbeats 16000000
namespace Go.Proofs.YtmgpefenkilffaaGreat
section
open Go.RowKit
structure Hin where
 op:Int
 x:Int
 y:Int
 n:Int
 A:Option Addr
 c:Nat
 l:List Sp
def Hin.ins (h:Hin):Ins:=⟨h.op,h.x,h.y,h.n,h.l⟩
def Hin.wf (h:Hin):Prop:=I64 h.op/\I64 h.x/\I64 h.y/\I64 h.n
def flatN (hs:List Hin):List Value:=hs.flatMap fun h=>[.int .i64 h.op,.int .i64 h.x,.int .i64 h.y,.int .i64 h.n,.slice h.A h.l.length h.c]
theorem flatN_append (l m:List Hin):flatN (l++m)=flatN l++flatN m:=by simp[flatN]
theorem flatN_len (l:List Hin):(flatN l).length=l.length*5:=by
 induction l with
 | nil=>rfl
 | cons y l ih=>simp only[flatN,List.flatMap_cons,List.length_append] at *;simp only[List.length_cons,List.length_nil];omega
theorem flatN_one (l:List Hin):∀u∈flatN l,u.oneCell'=true:=by
 intro u hu;obtain⟨o,_,hu⟩:=List.mem_flatMap.1 hu;simp only[List.mem_cons,List.not_mem_nil,or_false] at hu;rcases hu with rfl|rfl|rfl|rfl|rfl<;>rfl
theorem flatN_get (l:List Hin)(i:Nat)(h:i<l.length):(flatN l)[i*5]? = some (.int .i64 l[i].op)/\(flatN l)[i*5+1]? = some (.int .i64 l[i].x)/\(flatN l)[i*5+2]? = some (.int .i64 l[i].y)/\
 (flatN l)[i*5+3]? = some (.int .i64 l[i].n)/\(flatN l)[i*5+4]? = some (.slice l[i].A l[i].l.length l[i].c):=by
 induction l generalizing i with
 | nil=>simp at h
 | cons y l ih=>
  cases i with
  | zero=>simp[flatN]
  | succ i=>
   have hi:i<l.length:=by simpa using h
   have e:flatN (y::l)=.int .i64 y.op::.int .i64 y.x::.int .i64 y.y::.int .i64 y.n::.slice y.A y.l.length y.c::flatN l:=by simp[flatN]
   have e1:(i+1)*5=i*5+5:=om;rw[e,e1];exact ih i hi
structure PL (w:World)(A:Option Addr)(c:Nat)(hs:List Hin):Prop where
 le:hs.length<=c
 cap:c<=maxLen
 rng:∀h∈hs,h.wf
 sl:∀h∈hs,SL w h.A h.c h.l
 at_:hs≠[]->∃b o,A=some ⟨b,o,none⟩/\∀i (h:i<hs.length),w.cell? ⟨b,o+i*5,none⟩=some (.int .i64 hs[i].op)/\w.cell? ⟨b,o+i*5+1,none⟩=some (.int .i64 hs[i].x)/\
  w.cell? ⟨b,o+i*5+2,none⟩=some (.int .i64 hs[i].y)/\w.cell? ⟨b,o+i*5+3,none⟩=some (.int .i64 hs[i].n)/\w.cell? ⟨b,o+i*5+4,none⟩=some (.slice hs[i].A hs[i].l.length hs[i].c)
namespace PL
variable {w w':World} {A:Option Addr} {c:Nat} {hs:List Hin}
theorem ext (h:PL w A c hs)(k:Ext w w'):PL w' A c hs:=by
 refine⟨h.le,h.cap,h.rng,fun z hz=>(h.sl z hz).ext k,fun hn=>?_⟩;obtain⟨b,o,rfl,hc⟩:=h.at_ hn;exact⟨b,o,rfl,fun i hi=>⟨k.cell (hc i hi).1,k.cell (hc i hi).2.1,k.cell (hc i hi).2.2.1,k.cell (hc i hi).2.2.2.1,k.cell (hc i hi).2.2.2.2⟩⟩
theorem len (h:PL w A c hs):hs.length<=c/\c<=9223372036854775807:=⟨h.le,by have:=h.cap;unfold maxLen at this;omega⟩
theorem get {k:Nat}(h:PL w A c hs)(hk:k<hs.length):∃b o,A=some ⟨b,o,none⟩/\w.cell? ⟨b,o+k*5,none⟩=some (.int .i64 hs[k].op)/\w.cell? ⟨b,o+k*5+1,none⟩=some (.int .i64 hs[k].x)/\
 w.cell? ⟨b,o+k*5+2,none⟩=some (.int .i64 hs[k].y)/\w.cell? ⟨b,o+k*5+3,none⟩=some (.int .i64 hs[k].n)/\w.cell? ⟨b,o+k*5+4,none⟩=some (.slice hs[k].A hs[k].l.length hs[k].c):=by
 obtain⟨b,o,rfl,hc⟩:=h.at_ (by intro h0;subst h0;simp at hk);exact⟨b,o,rfl,hc k hk⟩
theorem of_own {base T:Nat}(h:OwnS w base T 5 A hs.length c (flatN hs))(hr:∀z∈hs,z.wf)(hsl:∀z∈hs,SL w z.A z.c z.l):PL w A c hs:=by
 have hc:=OwnS.caps h;refine⟨hc.1,by unfold maxLen;omega,hr,hsl,fun hn=>?_⟩;obtain⟨b,o,hA,hcell⟩:=OwnS.cells h (by intro e;have:=flatN_len hs;rw[e] at this;simp at this;exact hn (List.length_eq_zero_iff.1 om));have one:∀(i:Nat) (v:Value),(flatN hs)[i]? = some v->w.cell? ⟨b,o+i,none⟩=some v:=fun i v hv=>by
  obtain⟨l1,e1⟩:=List.getElem?_eq_some_iff.1 hv;rw[hcell i l1,e1]
 refine⟨b,o,hA,fun i hi=>?_⟩;obtain⟨g0,g1,g2,g3,g4⟩:=flatN_get hs i hi;refine⟨one _ _ g0,?_,?_,?_,?_⟩
 ·rw[Nat.add_assoc];exact one _ _ g1
 ·rw[Nat.add_assoc];exact one _ _ g2
 ·rw[Nat.add_assoc];exact one _ _ g3
 ·rw[Nat.add_assoc];exact one _ _ g4
end PL
def InsOk (runes:Bool)(caps:Int)(n:Nat)(i:Ins):Prop:=
 (i.op=1\/i.set=[])/\(i.op=2\/i.y=0)/\(i.op=2\/i.op=3\/i.x=0)/\(i.op=4\/i.op=5\/i.n=0)/\
 (i.op=0\/(i.op=1/\validE i.set=0/\∀s,i.set.getLast? = some s->s.2<=topV runes)\/(i.op=2/\(0<=i.x/\i.x<n)/\0<=i.y/\i.y<n)\/(i.op=3/\0<=i.x/\i.x<n)\/
  (i.op=4/\0<=i.n/\i.n<2*caps)\/(i.op=5/\0<=i.n/\i.n<=5))
open Classical in
noncomputable def progE (runes:Bool) (caps:Int) (G:List Ins):Int:=
 if 8192<G.length then 4 else if G.length=0\/caps<0\/9<caps then 1 else if ∀i∈G,InsOk runes caps G.length i then
  (match G.getLast? with|some i=>if i.op=0\/i.op=2\/i.op=3 then 0 else 1|none=>1) else 1
theorem progE_big {runes:Bool}{caps:Int}{G:List Ins}(h:8192<G.length):progE runes caps G=4:=by unfold progE;rw[if_pos h]
theorem progE_arg {runes:Bool}{caps:Int}{G:List Ins}(h:¬8192<G.length)(h2:G.length=0\/caps<0\/9<caps):progE runes caps G=1:=by unfold progE;rw[if_neg h,if_pos h2]
theorem progE_bad {runes:Bool}{caps:Int}{G:List Ins}(h:¬8192<G.length)(h2:¬(G.length=0\/caps<0\/9<caps)){k:Nat}(hk:k<G.length)(h3:¬InsOk runes caps G.length G[k]):progE runes caps G=1:=by
 unfold progE;rw[if_neg h,if_neg h2,if_neg (fun h4=>h3 (h4 _ (List.getElem_mem hk)))]
theorem progE_end {runes:Bool}{caps:Int}{G:List Ins}(h:¬8192<G.length)(h2:¬(G.length=0\/caps<0\/9<caps))(h3:∀k (hk:k<G.length),InsOk runes caps G.length G[k])(hl:G.length-1<G.length) :
 progE runes caps G=if G[G.length-1].op=0\/G[G.length-1].op=2\/G[G.length-1].op=3 then 0 else 1:=by
 unfold progE;rw[if_neg h,if_neg h2,if_pos (fun i hi=>by obtain⟨k,hk,rfl⟩:=List.mem_iff_getElem.1 hi;exact h3 k hk),List.getLast?_eq_getElem?,List.getElem?_eq_getElem hl]
structure GOk (runes:Bool)(caps:Int)(G:List Ins):Prop where
 len:0<G.length/\G.length<=8192
 cap9:0<=caps/\caps<=9
 ins:∀k (hk:k<G.length),InsOk runes caps G.length G[k]
 last:∀hl:G.length-1<G.length,G[G.length-1].op=0\/G[G.length-1].op=2\/G[G.length-1].op=3
 plain:∀k (hk:k<G.length),G[k].op≠5
namespace GOk
variable {runes:Bool} {caps:Int} {G:List Ins}
theorem op (h:GOk runes caps G){k:Nat}(hk:k<G.length):G[k].op=0\/G[k].op=1\/G[k].op=2\/G[k].op=3\/G[k].op=4:=by
 have h1:=(h.ins k hk).2.2.2.2;have h2:=h.plain k hk;omega
theorem next (h:GOk runes caps G){k:Nat}(hk:k<G.length)(ho:G[k].op=1\/G[k].op=4):k+1<G.length:=by
 rcases Nat.lt_or_ge (k+1) G.length with h1|h1
 ·exact h1
 ·have e:G.length-1=k:=om;have h2:=h.last om;have h3:G[G.length-1]'om=G[k]:=by congr 1
  rw[h3] at h2;omega
theorem jump (h:GOk runes caps G){k:Nat}(hk:k<G.length)(ho:G[k].op=2\/G[k].op=3):∃x:Nat,G[k].x=x/\x<G.length:=by
 have h1:=(h.ins k hk).2.2.2.2;exact⟨G[k].x.toNat,om,om⟩
theorem jump2 (h:GOk runes caps G){k:Nat}(hk:k<G.length)(ho:G[k].op=2):∃y:Nat,G[k].y=y/\y<G.length:=by
 have h1:=(h.ins k hk).2.2.2.2;exact⟨G[k].y.toNat,om,om⟩
end GOk
end
section
open Go.RowKit
attribute [local go_sem ↓] Go.wp_at_zero Go.wp_at_succ
theorem has_any (A:Option Addr)(c:Nat)(xs:List Int)(n:Int)(w:World)(ha:IL w A c xs) :
 Calls Tryz.prog 154 #[.slice A xs.length c,.int .i64 n] w (RetQ (.bool (decide (n∈xs))) w):=by
 obtain⟨a1,a2⟩:=ha.len;go_enter Tryz.func154,Tryz.ntmps154
 go_wp2
 go_loopw [5] (fun i wr=>∃k:Nat,k<=xs.length/\i=.int .i64 k/\Hid (n∉xs.take k)/\∃m,wr=w.drewN m) (fun i _=>xs.length-(intOf i).toNat)
 case atStart=>exact⟨0,Nat.zero_le _,rfl,lh si,0,rfl⟩
 case round=>
  obtain⟨k,hk,rfl,ht,m,rfl⟩:=hrel;by_cases hlt:k<xs.length
  ·obtain⟨p1,o1,rfl,g1⟩:=ha.get hlt;have hlt2:(k:Int)<xs.length:=om;by_cases he:xs[k]=n
   ·have he':(xs[k] == n)=true:=by simp[he]
    have HN:=lh (show decide (n∈xs)=true from decide_eq_true (he▸List.getElem_mem hlt));clear he
    go_wp2_with (go_quiet (fail))
    go_ret
    exact⟨by rw[HN.out];rfl,_,rfl⟩
   ·have he':(xs[k] == n)=false:=by simp[he]
    have HT:=lh (show n∉xs.take (k+1) by
     rw[List.take_succ_eq_append_getElem hlt];simp only[List.mem_append,List.mem_singleton,not_or];exact⟨ht.out,fun e=>he e.symm⟩)
    clear he
    go_wp2_with (go_quiet (fail))
    go_roundw
    case rel=>exact⟨k+1,om,by go_num,HT,_,rfl⟩
    case measure=>simp[intOf];omega
  ·have HN:=lh (show decide (n∈xs)=false from decide_eq_false (by
    have:=ht.out
    rwa [List.take_of_length_le om] at this))
   go_wp2
   go_ret
   exact⟨by rw[HN.out];rfl,_,rfl⟩
def castL (l:List Nat):List Int:=l.map (fun(n:Nat)=>(n:Int))
def insL (hs:List Hin):List Ins:=hs.map Hin.ins
theorem insL_len (hs:List Hin):(insL hs).length=hs.length:=by simp[insL]
theorem insL_get {hs:List Hin}{k:Nat}(hk:k<hs.length):(insL hs)[k]? = some hs[k].ins:=by simp[insL,hk]
theorem insL_getElem {hs:List Hin}{k:Nat}(hk:k<(insL hs).length):(insL hs)[k]=(hs[k]'(by rw[insL_len] at hk;exact hk)).ins:=by simp[insL]
theorem KpP.chain {p q:Nat->Prop}{a b c:World}(h:KpP p a b)(k:KpP q b c)(hq:∀i,q i->p i\/a.heap.size<=i):KpP p a c:=
 ⟨k.os.trans h.os,k.tape.trans h.tape,k.output.trans h.output,Nat.le_trans h.size k.size,fun i hi hn=>(k.block i (Nat.lt_of_lt_of_le hi h.size) (fun hm=>by
  rcases hq i hm with h1|h1
  ·exact hn h1
  ·omega)).trans (h.block i hi hn)⟩
theorem blk5 {w:World}{g T:Nat}{a b c d e:Value}(h:Blk w g T #[a,b,c,d,e]):w.cell? ⟨g,0,none⟩=some a/\w.cell? ⟨g,1,none⟩=some b/\w.cell? ⟨g,2,none⟩=some c/\w.cell? ⟨g,3,none⟩=some d/\w.cell? ⟨g,4,none⟩=some e/\g<w.heap.size:=
 ⟨h.cell 0,h.cell 1,h.cell 2,h.cell 3,h.cell 4,h.lt⟩
def progV (gA:Option Addr)(n gc:Nat)(caps:Int)(runes:Bool):Value:=.agg #[.slice gA n gc,.int .i64 caps,.bool runes]
theorem infoNk:(Tryz.prog.info? 3).map (fun i=>(i.zero,i.size,i.bytes))=some (some (.int .i64 0),1,8):=by kernel_rfl
theorem isD_get {hs:List Hin}{p:Nat}(h:p<hs.length):isD (insL hs) p=decide (hs[p].op=0):=by
 unfold isD;rw[insL_get h];rfl
end
section
open Go.RowKit
theorem infoI64k:(Tryz.prog.info? 3).map (fun i=>(i.zero,i.size,i.bytes))=some (some (.int .i64 0),1,8):=by kernel_rfl
theorem eqI64k (a b:Int)(n:Nat)(w:World):(Op.equalIn (n+1) 3 (.int .i64 a) (.int .i64 b)).run Tryz.prog w=.ok (a == b) w:=by
 have u3:=Tryz.underlying3;unfold Op.equalIn;go_simp
theorem part2k (a b:Int)(w:World):(part 3 #[.int .i64 a,.int .i64 b] (0*1)).run Tryz.prog w=.ok (.int .i64 a) w/\(part 3 #[.int .i64 a,.int .i64 b] (1*1)).run Tryz.prog w=.ok (.int .i64 b) w:=by
 unfold part;constructor<;>go_simp
theorem eqArr2 (a b c d:Int)(w:World):(Op.equalIn 10000 54 (.agg #[.int .i64 a,.int .i64 b]) (.agg #[.int .i64 c,.int .i64 d])).run Tryz.prog w=.ok (a == c&&b == d) w:=by
 obtain⟨i0,hi0,_⟩:=info_parts infoI64k;have hu:Tryz.prog.underlying 54=some (.array 2 3):=by kernel_rfl
 have hc:Tryz.prog.cellsOf 3=1:=by kernel_rfl
 rw[show(10000:Nat)=9999+1 from rfl,run_equalIn_array w 9999 _ _ hu hi0,hc,show(9999:Nat)=9998+1 from rfl]
 show(Op.eqItems (9998+1) 3 1 _ _ [0,1]).run _ _=_
 unfold Op.eqItems;simp only[Sem.run_bind,(part2k a b w).1,(part2k c d w).1,eqI64k,Result.andThen_ok];by_cases h1:a=c
 ·subst h1;simp only[beq_self_eq_true,Bool.not_true,Bool.false_eq_true,if_false,Bool.true_and];unfold Op.eqItems;simp only[Sem.run_bind,(part2k a b w).2,(part2k a d w).2,eqI64k,Result.andThen_ok];by_cases h2:b=d
  ·subst h2;simp[Op.eqItems]
  ·have:(b == d)=false:=by simpa using h2
   simp[this]
 ·have:(a == c)=false:=by simpa using h1
  simp[this]
end
def sucE (G:List Ins)(rn:Bool)(i j:Nat):Prop:=∃a,G[i]? = some a/\
 ((a.op=2/\(j=a.x.toNat\/j=a.y.toNat))\/(a.op=3/\j=a.x.toNat)\/(a.op=4/\j=i+1)\/(a.op=1/\(∃s∈a.set,rn=false\/s.1<55296\/57343<s.2)/\j=i+1))
def leadP (G:List Ins)(rn:Bool)(i:Nat):Prop:=∃d,isD G d=true/\Rch (sucE G rn) i d
noncomputable def leadG (G:List Ins) (rn:Bool) (i:Nat):Bool:=@decide (leadP G rn i) (Classical.propDecidable _)
structure Itm where
 p:Int
 l:St
 e:Int
def resOf (I:List Itm):List (Int×Int):=I.filterMap (fun i=>if 0<=i.e then some (i.p,i.e) else none)
def openI (D:St->Bool)(I:List Itm):List Itm:=I.filter (fun i=>!D i.l)
def shutI (D:St->Bool)(I:List Itm):List Itm:=I.filter (fun i=>D i.l)
def resI (D:St->Bool)(I:List Itm):List (Int×Int):=resOf (shutI D I)
def startI (G:List Ins)(N:Int):Itm:=⟨N,stateG G [0],if doneG G (stateG G [0])=true then N else -1⟩
def movI (G:List Ins)(N x:Int)(i:Itm):Itm:=⟨i.p,nextG G i.l x,if doneG G (nextG G i.l x)=true then N else i.e⟩
def stepI (G:List Ins)(N x:Int)(I:List Itm):List Itm:=I.map (movI G (N+1) x)++[startI G (N+1)]
def runI (G:List Ins)(D:St->Bool):List Int->Int->List Itm->List Itm×List (Int×Int)
 | [],_,I=>(I,[])
 | x::t,N,I=>((runI G D t (N+1) (openI D (stepI G N x I))).1,resI D (stepI G N x I)++(runI G D t (N+1) (openI D (stepI G N x I))).2)
theorem resOf_perm {I J:List Itm}(h:I.Perm J):(resOf I).Perm (resOf J):=h.filterMap _
theorem openI_perm {D:St->Bool}{I J:List Itm}(h:I.Perm J):(openI D I).Perm (openI D J):=h.filter _
theorem resI_perm {D:St->Bool}{I J:List Itm}(h:I.Perm J):(resI D I).Perm (resI D J):=resOf_perm (h.filter _)
theorem stepI_perm {G:List Ins}{N x:Int}{I J:List Itm}(h:I.Perm J):(stepI G N x I).Perm (stepI G N x J):=(h.map _).append_right _
theorem resOf_append (I J:List Itm):resOf (I++J)=resOf I++resOf J:=by simp[resOf]
theorem openI_append (D:St->Bool)(I J:List Itm):openI D (I++J)=openI D I++openI D J:=by simp[openI]
theorem resI_append (D:St->Bool)(I J:List Itm):resI D (I++J)=resI D I++resI D J:=by simp[resI,shutI,resOf]
theorem runI_append (G:List Ins)(D:St->Bool):∀(a b:List Int) (N:Int) (I:List Itm),
 runI G D (a++b) N I=((runI G D b (N+a.length) (runI G D a N I).1).1,(runI G D a N I).2++(runI G D b (N+a.length) (runI G D a N I).1).2)
 | [],b,N,I=>by simp[runI]
 | x::a,b,N,I=>by
  have e:N+1+(a.length:Int)=N+((x::a).length:Int):=by simp only[List.length_cons];omega
  rw[List.cons_append,runI,runI_append G D a b,e,runI];simp only[List.append_assoc]
def keysI (I:List Itm)(R:List (Int×Int)):List Int:=I.map (·.p)++R.map (·.1)
theorem keys_split (D:St->Bool):∀(J:List Itm),(J.map (·.p)).Nodup->(keysI (openI D J) (resI D J)).Nodup/\∀k∈keysI (openI D J) (resI D J),k∈J.map (·.p)
 | [],_=>by simp[keysI,openI,resI,shutI,resOf]
 | i::J,h=>by
  rw[List.map_cons,List.nodup_cons] at h;obtain⟨h1,h2⟩:=keys_split D J h.2;have hn:i.p∉keysI (openI D J) (resI D J):=fun hk=>h.1 (h2 _ hk);by_cases hd:D i.l=true
  ·have e1:openI D (i::J)=openI D J:=by simp[openI,hd]
   by_cases he:0<=i.e
   ·have e2:resI D (i::J)=(i.p,i.e)::resI D J:=by simp[resI,shutI,resOf,hd,he]
    have e3:keysI (openI D J) ((i.p,i.e)::resI D J)=(openI D J).map (·.p)++i.p::(resI D J).map (·.1):=rfl;rw[e1,e2,e3];refine⟨(List.perm_middle.nodup_iff).2 (List.nodup_cons.2 ⟨hn,h1⟩),fun k hk=>?_⟩;rcases List.mem_cons.1 (List.perm_middle.mem_iff.1 hk) with rfl|hk
    ·simp
    ·exact List.mem_cons_of_mem _ (h2 _ hk)
   ·have e2:resI D (i::J)=resI D J:=by simp[resI,shutI,resOf,hd,he]
    rw[e1,e2];exact⟨h1,fun k hk=>List.mem_cons_of_mem _ (h2 k hk)⟩
  ·have hd':D i.l=false:=by simpa using hd
   have e1:openI D (i::J)=i::openI D J:=by simp[openI,hd']
   have e2:resI D (i::J)=resI D J:=by simp[resI,shutI,resOf,hd']
   rw[e1,e2];have e3:keysI (i::openI D J) (resI D J)=i.p::keysI (openI D J) (resI D J):=rfl;rw[e3];refine⟨List.nodup_cons.2 ⟨hn,h1⟩,fun k hk=>?_⟩;rcases List.mem_cons.1 hk with rfl|hk
   ·simp
   ·exact List.mem_cons_of_mem _ (h2 _ hk)
theorem stepI_keys (G:List Ins)(N x:Int)(I:List Itm):(stepI G N x I).map (·.p)=I.map (·.p)++[N+1]:=by
 unfold stepI;rw[List.map_append,List.map_map]
 rfl
theorem runI_keys (G:List Ins)(D:St->Bool):∀(t:List Int) (N:Int) (I:List Itm),(I.map (·.p)).Nodup->(∀k∈I.map (·.p),0<=k/\k<=N)->0<=N->
 (keysI (runI G D t N I).1 (runI G D t N I).2).Nodup/\∀k∈keysI (runI G D t N I).1 (runI G D t N I).2,0<=k/\k<=N+t.length/\(k∈I.map (·.p)\/N<k)
 | [],N,I,h,hb,_=>by
  simp only[runI,keysI,List.map_nil,List.append_nil,List.length_nil];exact⟨h,fun k hk=>⟨(hb k hk).1,by have:=(hb k hk).2;simpa using this,.inl hk⟩⟩
 | x::t,N,I,h,hb,hN=>by
  have hk:((stepI G N x I).map (·.p)).Nodup:=by
   rw[stepI_keys,List.nodup_append];exact⟨h,by simp,fun a ha b hb2=>by
    have:=(hb a ha).2;have:b=N+1:=by simpa using hb2
    omega⟩
  have hkb:∀k∈(stepI G N x I).map (·.p),0<=k/\k<=N+1/\(k∈I.map (·.p)\/N<k):=fun k hk=>by
   rw[stepI_keys] at hk;rcases List.mem_append.1 hk with hk|hk
   ·have:=hb k hk;exact⟨this.1,om,.inl hk⟩
   ·have:k=N+1:=by simpa using hk
    exact⟨om,om,.inr om⟩
  obtain⟨h1,h2⟩:=keys_split D _ hk;have hs:=List.nodup_append.1 h1;have hm:∀k∈(openI D (stepI G N x I)).map (·.p),k∈(stepI G N x I).map (·.p):=fun k hk=>h2 k (List.mem_append_left _ hk);obtain⟨h3,h4⟩:=runI_keys G D t (N+1) (openI D (stepI G N x I)) hs.1 (fun k hk=>by have:=hkb k (hm k hk);omega) om;have e:N+1+(t.length:Int)=N+((x::t).length:Int):=by simp only[List.length_cons];omega
  rw[e] at h4;rw[runI];generalize runI G D t (N+1) (openI D (stepI G N x I))=r at *;have hp:(keysI r.1 (resI D (stepI G N x I)++r.2)).Perm ((resI D (stepI G N x I)).map (·.1)++keysI r.1 r.2):=by
   unfold keysI;rw[List.map_append,<-List.append_assoc,<-List.append_assoc];exact List.perm_append_comm.append_right _
  refine⟨hp.nodup_iff.2 (List.nodup_append.2 ⟨hs.2.1,h3,fun a ha b hb2=>?_⟩),fun k hk=>?_⟩
  ·rintro rfl;rcases(h4 a hb2).2.2 with h5|h5
   ·exact hs.2.2 a h5 a ha rfl
   ·have:=(hkb a (h2 a (List.mem_append_right _ ha))).2.1;omega
  ·rcases List.mem_append.1 (hp.mem_iff.1 hk) with hk|hk
   ·have h5:=hkb k (h2 k (List.mem_append_right _ hk));have:N+1<=N+((x::t).length:Int):=by simp only[List.length_cons];omega
    exact⟨h5.1,om,h5.2.2⟩
   ·have h5:=h4 k hk;refine⟨h5.1,h5.2.1,?_⟩;rcases h5.2.2 with h6|h6
    ·exact(hkb k (hm k h6)).2.2
    ·exact .inr om
theorem sorted_uniq:∀{a b:List (Int×Int)},a.Perm b->(a.map (·.1)).Nodup->a.Pairwise (fun s t=>s.1<=t.1)->b.Pairwise (fun s t=>s.1<=t.1)->a=b
 | [],b,h,_,_,_=>by rw[List.nil_perm.1 h]
 | x::a,[],h,_,_,_=>absurd h.length_eq si
 | x::a,y::b,h,hn,ha,hb=>by
  rw[List.map_cons,List.nodup_cons] at hn;rw[List.pairwise_cons] at ha hb;have hxy:x=y:=by
   rcases List.mem_cons.1 (h.mem_iff.1 (List.mem_cons_self (a:=x) (l:=a))) with e|hx
   ·exact e
   ·rcases List.mem_cons.1 (h.mem_iff.2 (List.mem_cons_self (a:=y) (l:=b))) with e|hy
    ·exact e.symm
    ·have h1:=ha.1 y hy;have h2:=hb.1 x hx;have h3:y.1=x.1:=om;exact absurd (List.mem_map.2 ⟨y,hy,h3⟩) hn.1
  subst hxy;rw[sorted_uniq (List.Perm.cons_inv h) hn.2 ha.2 hb.2]
section
open Go.RowKit
theorem bytes_beq (a b:ByteArray):(a == b)=decide (a=b):=by
 rw[beq_toListBytes,ByteArray.toList_eq,ByteArray.toList_eq];obtain⟨⟨x⟩⟩:=a;obtain⟨⟨y⟩⟩:=b;rw[Bool.eq_iff_iff]
 simp
theorem findNow_str (x:ByteArray):∀(es:List MapEntry) (ks:List ByteArray) (j:Nat),es.map (·.key)=ks.map Value.string->
 Instr.findNow .string (.string x) es j=some ((ks.findIdx? (fun y=>decide (y=x))).map fun i=>(j+i,((es[i]?).map (·.val)).getD undef))
 | [],[],_,_=>by simp[Instr.findNow]
 | [],_::_,_,h=>by simp at h
 | _::_,[],_,h=>by simp at h
 | e::es,y::ks,j,h=>by
  simp only[List.map_cons,List.cons.injEq] at h;simp only[Instr.findNow,h.1,Instr.sameNow,bytes_beq];have ih:=findNow_str x es ks (j+1) h.2;by_cases hxy:x=y
  ·subst hxy;simp[List.findIdx?_cons]
  ·have e2:¬y=x:=fun e=>hxy e.symm;simp only[hxy,decide_false,ih,List.findIdx?_cons,e2,Bool.false_eq_true,if_false,Option.map_map]
   congr 2
   funext i
   simp only[Function.comp,List.getElem?_cons_succ]
   congr 1;omega
theorem str_klaw {P:Program}{k:TypeId}(hk:P.underlying k=some .string):KLaw P k Value.string where
 check:=fun e x w=>by
  unfold Instr.checkKey;simp[Sem.run_bind,run_underlying hk]
 find:=fun x es ks h w=>by
  have e:(ks.findIdx? (fun y=>decide (y=x)))=ks.findIdx? (@BEq.beq ByteArray instBEqOfDecidableEq · x):=rfl;unfold Instr.findKey;simp only[Sem.run_bind,run_underlying hk,Result.andThen_ok,findNow_str x es ks 0 h,e]
  simp
 same:=fun x=>by simp[Instr.sameBits,bytes_beq]
def keyB (l:List Nat):List Int:=l.flatMap (fun i=>[((i / 256 % 256:Nat):Int),((i % 256:Nat):Int)])
theorem keyB_len (l:List Nat):(keyB l).length=2*l.length:=by
 induction l with
 | nil=>rfl
 | cons x l ih=>simp only[keyB,List.flatMap_cons,List.length_append] at *;simp only[List.length_cons,List.length_nil];omega
theorem keyB_u8 (l:List Nat):∀b∈keyB l,0<=b/\b<256:=by
 intro b hb;obtain⟨i,_,hb⟩:=List.mem_flatMap.1 hb;simp only[List.mem_cons,List.not_mem_nil,or_false] at hb;omega
theorem keyB_inj:∀{l m:List Nat},(∀i∈l,i<65536)->(∀i∈m,i<65536)->keyB l=keyB m->l=m
 | [],[],_,_,_=>rfl
 | [],y::m,_,_,h=>by simp[keyB] at h
 | x::l,[],_,_,h=>by simp[keyB] at h
 | x::l,y::m,hl,hm,h=>by
  have e1:keyB (x::l)=((x / 256 % 256:Nat):Int)::((x % 256:Nat):Int)::keyB l:=by simp[keyB]
  have e2:keyB (y::m)=((y / 256 % 256:Nat):Int)::((y % 256:Nat):Int)::keyB m:=by simp[keyB]
  rw[e1,e2,List.cons.injEq,List.cons.injEq] at h;obtain⟨h1,h2,h3⟩:=h;have hx:=hl x si;have hy:=hm y si;have:x=y:=om;rw[this,keyB_inj (fun i hi=>hl i (by simp[hi])) (fun i hi=>hm i (by simp[hi])) h3]
theorem strOf_inj {xs ys:List Int}(hx:∀b∈xs,0<=b/\b<256)(hy:∀b∈ys,0<=b/\b<256)(h:strOfNums xs=strOfNums ys):xs=ys:=by
 have h1:=congrArg (fun b=>b.data.toList) h;simp only[strOfNums_data] at h1;induction xs generalizing ys with
 | nil=>
  cases ys with
  | nil=>rfl
  | cons y ys=>simp at h1
 | cons x xs ih=>
  cases ys with
  | nil=>simp at h1
  | cons y ys=>
   simp only[List.map_cons,List.cons.injEq] at h1;have hx1:=hx x si;have hy1:=hy y si;have e:=congrArg UInt8.toNat h1.1;simp only[UInt8.toNat_ofNat'] at e;have e2:x=y:=om;rw[e2,ih (fun b hb=>hx b (by simp[hb])) (fun b hb=>hy b (by simp[hb])) (by simp[strOfNums,h1.2]) h1.2]
def keyS (l:List Nat):ByteArray:=strOfNums (keyB l)
theorem keyS_inj {l m:List Nat}(hl:∀i∈l,i<65536)(hm:∀i∈m,i<65536)(h:keyS l=keyS m):l=m:=
 keyB_inj hl hm (strOf_inj (keyB_u8 l) (keyB_u8 m) h)
inductive Fo where
 | nil:Fo
 | cons (b:Nat) (p e:Int) (A:Option Addr) (c:Nat) (kids rest:Fo):Fo
namespace Fo
def ptrs:Fo->List Value
 | nil=>[]
 | cons b _ _ _ _ _ r=>.pointer (some ⟨b,0,none⟩)::r.ptrs
def len:Fo->Nat
 | nil=>0
 | cons _ _ _ _ _ _ r=>r.len+1
def fp:Fo->List Nat
 | nil=>[]
 | cons b _ _ A _ k r=>b::(blkL A++(k.fp++r.fp))
def pos (later:Int):Fo->List (Int×Int)
 | nil=>[]
 | cons _ p e _ _ k r=>(if 0<=p then[(p,if later<0 then e else later)] else k.pos (if later<0 then e else later))++r.pos later
def app:Fo->Fo->Fo
 | nil,t=>t
 | cons b p e A c k r,t=>cons b p e A c k (r.app t)
theorem ptrs_len:∀f:Fo,f.ptrs.length=f.len
 | nil=>rfl
 | cons _ _ _ _ _ _ r=>by simp[ptrs,len,ptrs_len r]
theorem ptrs_app:∀f t:Fo,(f.app t).ptrs=f.ptrs++t.ptrs
 | nil,t=>rfl
 | cons _ _ _ _ _ _ r,t=>by simp[app,ptrs,ptrs_app r t]
theorem len_app:∀f t:Fo,(f.app t).len=f.len+t.len
 | nil,t=>by simp[app,len]
 | cons _ _ _ _ _ _ r,t=>by simp[app,len,len_app r t];omega
theorem fp_app:∀f t:Fo,(f.app t).fp=f.fp++t.fp
 | nil,t=>rfl
 | cons _ _ _ _ _ _ r,t=>by simp[app,fp,fp_app r t]
theorem pos_app (later:Int):∀f t:Fo,(f.app t).pos later=f.pos later++t.pos later
 | nil,t=>rfl
 | cons _ _ _ _ _ _ r,t=>by simp[app,pos,pos_app later r t]
theorem pos_later {n:Int}(hn:0<=n):∀f:Fo,f.pos n=(f.pos (-1)).map (fun x=>(x.1,n))
 | nil=>rfl
 | cons b p e A c k r=>by
  have h1:¬n<0:=om;unfold pos;rw[List.map_append,<-pos_later hn r]
  congr 1
  by_cases hp:0<=p
  ·simp[hp,h1]
  ·rw[if_neg hp,if_neg hp,if_neg h1,if_pos om];by_cases he:e<0
   ·have:∀f:Fo,f.pos e=f.pos (-1):=pos_neg he;rw[this,<-pos_later hn k]
   ·rw[pos_later (n:=e) om k,pos_later hn k,List.map_map]
    rfl
where
 pos_neg {e:Int} (he:e<0):∀f:Fo,f.pos e=f.pos (-1)
  | nil=>rfl
  | cons _ p e' _ _ k r=>by
   unfold pos;rw[pos_neg he r,if_pos he,if_pos (by omega:(-1:Int)<0)]
def At (w:World):Fo->Prop
 | nil=>True
 | cons b p e A c k r=>Blk w b 250 #[.int .i64 p,.int .i64 e,.slice A k.len c]/\OwnS w 0 138 1 A k.len c k.ptrs/\((0<=p/\k=nil)\/(p<0/\k≠nil))/\-1<=p/\-1<=e/\I64 p/\I64 e/\k.At w/\r.At w
theorem At.app {w:World}:∀{f t:Fo},f.At w->t.At w->(f.app t).At w
 | nil,_,_,h=>h
 | cons _ _ _ _ _ _ _,_,⟨h1,h2,h3,h4,h5,h6,h7,h8,h9⟩,h=>⟨h1,h2,h3,h4,h5,h6,h7,h8,h9.app h⟩
theorem At.lt {w:World}:∀{f:Fo},f.At w->∀b∈f.fp,b<w.heap.size
 | nil,_,b,hb=>by simp[fp] at hb
 | cons g _ _ A _ k r,⟨h1,h2,_,_,_,_,_,h8,h9⟩,b,hb=>by
  simp only[fp,List.mem_cons,List.mem_append,mem_blkL] at hb;rcases hb with rfl|hb|hb|hb
  ·exact h1.lt
  ·exact(OwnS.blt h2 hb).1
  ·exact h8.lt b hb
  ·exact h9.lt b hb
theorem At.kp {w w':World}{p:Nat->Prop}(k:KpP p w w'):∀{f:Fo},f.At w->(∀b∈f.fp,¬p b)->f.At w'
 | nil,_,_=>trivial
 | cons g _ _ A _ kd r,⟨h1,h2,h3,h4,h5,h6,h7,h8,h9⟩,hn=>by
  simp only[fp,List.mem_cons,List.mem_append,mem_blkL] at hn;exact⟨k.blk h1 (hn g (.inl rfl)),OwnS.kp h2 k (fun b hb=>hn b (.inr (.inl hb))),h3,h4,h5,h6,h7,h8.kp k (fun b hb=>hn b (.inr (.inr (.inl hb)))),h9.kp k (fun b hb=>hn b (.inr (.inr (.inr hb))))⟩
theorem At.ext {w w':World}(x:Ext w w'){f:Fo}(h:f.At w):f.At w':=h.kp (p:=fun _=>False) (KpP.of_ext x) (fun _ _ h=>h)
end Fo
theorem Fo.len_pos {w:World}:∀{f:Fo} (later:Int),f.At w->f.len<=(f.pos later).length
 | .nil,_,_=>Nat.le_refl _
 | .cons b p e A c k r,later,⟨_,_,h3,_,_,_,_,h8,h9⟩=>by
  have h1:=Fo.len_pos later h9;have h2:=Fo.len_pos (if later<0 then e else later) h8;unfold Fo.len Fo.pos;rw[List.length_append];rcases h3 with⟨hp,_⟩|⟨hp,hk⟩
  ·rw[if_pos hp];simp only[List.length_cons,List.length_nil];omega
  ·rw[if_neg om];have:0<k.len:=by
    cases k with
    | nil=>exact absurd rfl hk
    | cons _ _ _ _ _ _ _=>simp[Fo.len]
   omega
abbrev grp (b:Nat) (p e:Int) (A:Option Addr) (c:Nat) (k:Fo):Fo:=.cons b p e A c k .nil
theorem grp_pos (b:Nat)(p e:Int)(A:Option Addr)(c:Nat)(k:Fo)(later:Int):(grp b p e A c k).pos later=if 0<=p then[(p,if later<0 then e else later)] else k.pos (if later<0 then e else later):=by simp[grp,Fo.pos]
def RetOI (xs:List Int)(w:World)(e:Ending)(w':World):Prop:=∃(A:Option Addr) (c:Nat),e=.returned (.slice A xs.length c)/\OwnI w' w.heap.size 3 A c xs/\(∀x∈xs,I64 x)/\Ext w w'
def tab12:List Int:=[97,97,97,98,98,99,97,98,10,32,65,200]
def sym12 (x:Int):Int:=tab12.getD (around x 12).toNat 0
def rtext (l:List Int)(m:Nat):List Int:=(l.take m).map sym12
theorem tab12_bd:∀p,p<12->0<=tab12.getD p 0/\tab12.getD p 0<=200:=by decide
theorem sym12_bd (x:Int):0<=sym12 x/\sym12 x<=200:=by
 have h:=around_bd x 12 om;exact tab12_bd _ om
theorem rtext_bd (l:List Int)(m:Nat):∀x∈rtext l m,0<=x/\x<=200:=by
 intro x hx;obtain⟨y,_,rfl⟩:=List.mem_map.1 hx;exact sym12_bd y
theorem rtext_len (l:List Int)(m:Nat):(rtext l m).length<=m:=by simp[rtext];omega
theorem rtext_succ (l:List Int)(k:Nat)(h:k<l.length):rtext l (k+1)=rtext l k++[sym12 l[k]]:=by
 unfold rtext;rw[List.take_succ_eq_append_getElem h,List.map_append];rfl
theorem I64_of {x:Int}(h : -1000000000000<=x/\x<=1000000000000):I64 x:=by unfold I64;omega
def setEd (w:World)(g:Nat)(a d:Int)(A:Option Addr)(n c:Nat):World:=((w.setCell ⟨g,0,none⟩ (.int .i64 a)).setCell ⟨g,1,none⟩ (.int .i64 d)).setCell ⟨g,2,none⟩ (.slice A n c)
theorem setEd_blk {w:World}{g T:Nat}{a0 a1 a2:Value}(h:Blk w g T #[a0,a1,a2])(a d:Int)(A:Option Addr)(n c:Nat):Blk (setEd w g a d A n c) g T #[.int .i64 a,.int .i64 d,.slice A n c]:=by
 have h:=((h.set 0 (.int .i64 a)).set 1 (.int .i64 d)).set 2 (.slice A n c)
 simpa[setEd] using h
theorem setEd_kp {L:List Nat}{u w:World}{g:Nat}(h:Kp L u w)(hg:g∈L)(a d:Int)(A:Option Addr)(n c:Nat):Kp L u (setEd w g a d A n c):=
 ((h.set (p:=⟨g,0,none⟩) (.inl hg) _).set (p:=⟨g,1,none⟩) (.inl hg) _).set (p:=⟨g,2,none⟩) (.inl hg) _
theorem setEd_kpp {p:Nat->Prop}{u w:World}{g:Nat}(h:KpP p u w)(hg:p g)(a d:Int)(A:Option Addr)(n c:Nat):KpP p u (setEd w g a d A n c):=
 ((h.set (x:=⟨g,0,none⟩) (.inl hg) _).set (x:=⟨g,1,none⟩) (.inl hg) _).set (x:=⟨g,2,none⟩) (.inl hg) _
structure Nd where
 op:Int
 A:Option Addr
 c:Nat
 l:List Sp
 K:Option Addr
 kc:Nat
 ks:List Value
 mn:Int
 mx:Int
 md:Int
 n:Int
 neg:Bool
def Nd.val (h:Nd):Value:=.agg #[.int .i64 h.op,.slice h.A h.l.length h.c,.slice h.K h.ks.length h.kc,.int .i64 h.mn,.int .i64 h.mx,.int .i64 h.md,.int .i64 h.n,.bool h.neg]
def Nd.cs (h:Nd):List Value:=[.int .i64 h.op,.slice h.A h.l.length h.c,.slice h.K h.ks.length h.kc,.int .i64 h.mn,.int .i64 h.mx,.int .i64 h.md,.int .i64 h.n,.bool h.neg]
def cellsOf:Value->List Value
 | .agg cs=>cs.toList
 | v=>[v]
theorem Nd.cells (h:Nd):cellsOf h.val=h.cs:=rfl
def SetOk (l:List Sp):Prop:=l.length<=2/\∀s∈l,(s.1∈[0,10,97,98,99,100,(256:Int)]/\s.2+1∈[11,97,98,99,100,(256:Int)])/\0<=s.1/\s.1<=s.2
structure NdOk (b:Nat)(h:Nd):Prop where
 op:h.op=0\/h.op=1\/h.op=2\/h.op=3\/h.op=4\/h.op=5\/h.op=11
 alt:h.op=3->2<=h.ks.length
 one:h.op=4\/h.op=5->1<=h.ks.length
 few:h.ks.length<=3
 mn:0<=h.mn/\h.mn<=b
 mx : -1<=h.mx/\h.mx<=b
 mm:h.mx = -1->h.mn+1<=b
 md:0<=h.md/\h.md<=1
 n:0<=h.n/\h.n<=9
 set:SetOk h.l
structure Hd where
 op:Int
 l:List Sp
 mn:Int
 mx:Int
 md:Int
 n:Int
 neg:Bool
def Nd.hd (h:Nd):Hd:=⟨h.op,h.l,h.mn,h.mx,h.md,h.n,h.neg⟩
inductive Tm
 | k0 (h:Hd)
 | k1 (h:Hd) (a:Tm)
 | k2 (h:Hd) (a b:Tm)
 | k3 (h:Hd) (a b c:Tm)
def Tm.hd:Tm->Hd
 | .k0 h=>h
 | .k1 h _=>h
 | .k2 h _ _=>h
 | .k3 h _ _ _=>h
def Tm.kids:Tm->List Tm
 | .k0 _=>[]
 | .k1 _ a=>[a]
 | .k2 _ a b=>[a,b]
 | .k3 _ a b c=>[a,b,c]
def Tm.of (h:Hd):List Tm->Tm
 | []=>.k0 h
 | [a]=>.k1 h a
 | [a,b]=>.k2 h a b
 | a::b::c::_=>.k3 h a b c
theorem Tm.hd_of (h:Hd):∀ts:List Tm,(Tm.of h ts).hd=h
 | []=>rfl
 | [_]=>rfl
 | [_,_]=>rfl
 | _::_::_::_=>rfl
theorem Tm.kids_of (h:Hd):∀{ts:List Tm},ts.length<=3->(Tm.of h ts).kids=ts
 | [],_=>rfl
 | [_],_=>rfl
 | [_,_],_=>rfl
 | [_,_,_],_=>rfl
 | _::_::_::_::_,hl=>by simp at hl
inductive TreeG (b:Nat) (S:Nat->Prop) (w:World):Nat->Value->Tm->Prop
 | mk {d:Nat} (h:Nd) (ts:List Tm):NdOk b h->SL w h.A h.c h.l->h.ks.length<=h.kc->h.kc<=maxLen->CellsAt w h.K (h.ks.flatMap cellsOf)->h.ks.length=ts.length->(∀i (hi:i<h.ks.length) (hj:i<ts.length),TreeG b S w d h.ks[i] ts[i])->
  (h.l≠[]->∀k,h.A.map (·.block)=some k->S k)->(h.ks≠[]->∀k,h.K.map (·.block)=some k->S k)->TreeG b S w (d+1) h.val (Tm.of h.hd ts)
def TreeAt (b:Nat)(S:Nat->Prop)(w:World)(d:Nat)(v:Value):Prop:=∃T,TreeG b S w d v T
theorem Nd.val_inj {h k:Nd}(e:h.val=k.val):h.op=k.op/\h.A=k.A/\h.l.length=k.l.length/\h.c=k.c/\h.K=k.K/\h.ks.length=k.ks.length/\h.kc=k.kc/\h.mn=k.mn/\h.mx=k.mx/\h.md=k.md/\h.n=k.n/\h.neg=k.neg:=by
 unfold Nd.val at e;simp only[Value.agg.injEq,Array.mk.injEq,List.cons.injEq,Value.int.injEq,Value.slice.injEq,Value.bool.injEq,true_and,and_true] at e;obtain⟨e1,⟨e2,e3,e4⟩,⟨e5,e6,e7⟩,e8,e9,e10,e11,e12⟩:=e;exact⟨e1,e2,e3,e4,e5,e6,e7,e8,e9,e10,e11,e12⟩
theorem CellsAt.kpZ {w w':World}{A:Option Addr}{xs:List Value}{p:Nat->Prop}(h:CellsAt w A xs)(k:KpP p w w')(hn:∀b,A.map (·.block)=some b->¬p b):CellsAt w' A xs:=fun hx=>by
 obtain⟨b,o,rfl,hc⟩:=h hx;refine⟨b,o,rfl,fun i hi=>?_⟩;have h1:=hc i hi;rw[World.cell?_of_block (w:=w) (k.block b (World.block_lt_of_cell? _ _ h1) (hn b rfl))];exact h1
theorem SL.kpZ {w w':World}{A:Option Addr}{c:Nat}{l:List Sp}{p:Nat->Prop}(h:SL w A c l)(k:KpP p w w')(hn:l≠[]->∀b,A.map (·.block)=some b->¬p b):SL w' A c l:=by
 refine⟨h.le,h.cap,h.rng,fun hx=>?_⟩;obtain⟨b,o,rfl,hc⟩:=h.at_ hx;refine⟨b,o,rfl,fun i hi=>?_⟩;have h1:=hc i hi;have hb:=k.block b (World.block_lt_of_cell? _ _ h1.1) (hn hx b rfl);exact⟨by rw[World.cell?_of_block (w:=w) hb];exact h1.1,by rw[World.cell?_of_block (w:=w) hb];exact h1.2⟩
namespace TreeG
variable {b:Nat} {S S':Nat->Prop} {w w':World} {d:Nat} {v:Value} {T:Tm}
theorem ext (h:TreeG b S w d v T)(x:Ext w w'):TreeG b S w' d v T:=by
 induction h with
 | mk h ts h1 h2 h3 h4 h5 h6 _ h7 h8 ih=>exact .mk h ts h1 (h2.ext x) h3 h4 (h5.ext x) h6 ih h7 h8
theorem kp {q:Nat->Prop}(h:TreeG b S w d v T)(k:KpP q w w')(hq:∀i,q i->¬S i):TreeG b S w' d v T:=by
 induction h with
 | mk h ts h1 h2 h3 h4 h5 h6 _ h7 h8 ih=>
  refine .mk h ts h1 (h2.kpZ k (fun hn i hi hqi=>hq i hqi (h7 hn i hi))) h3 h4 ?_ h6 ih h7 h8;intro hx;have hn:h.ks≠[]:=by intro e;rw[e] at hx;exact hx rfl
  exact(h5.kpZ k (fun i hi hqi=>hq i hqi (h8 hn i hi))) hx
theorem mono (h:TreeG b S w d v T):∀{e:Nat},d<=e->TreeG b S w e v T:=by
 induction h with
 | mk h ts h1 h2 h3 h4 h5 h6 _ h7 h8 ih=>
  intro e he;obtain⟨e,rfl⟩:∃k,e=k+1:=⟨e-1,om⟩;exact .mk h ts h1 h2 h3 h4 h5 h6 (fun i hi hj=>ih i hi hj om) h7 h8
theorem len8 (h:TreeG b S w d v T):(cellsOf v).length=8:=by cases h with|mk=>rfl
theorem pos (h:TreeG b S w d v T):∃e,d=e+1:=by cases h with|mk=>exact⟨_,rfl⟩
theorem node (h:TreeG b S w (d+1) v T):∃n:Nd,v=n.val/\NdOk b n/\SL w n.A n.c n.l/\n.ks.length<=n.kc/\n.kc<=maxLen/\CellsAt w n.K (n.ks.flatMap cellsOf)/\T.hd=n.hd/\n.ks.length=T.kids.length/\∀i (hi:i<n.ks.length) (hj:i<T.kids.length),TreeG b S w d n.ks[i] T.kids[i]:=by
 cases h with
 | mk n ts h1 h2 h3 h4 h5 h6 h9=>
  have e:=Tm.kids_of n.hd (ts:=ts) (by rw[<-h6];exact h1.few);refine⟨n,rfl,h1,h2,h3,h4,h5,Tm.hd_of _ _,by rw[e];exact h6,fun i hi hj=>?_⟩;simp only[e];exact h9 i hi (by rw[<-h6];exact hi)
theorem imp (h:TreeG b S w d v T)(hS:∀k,S k->k<w.heap.size->S' k):TreeG b S' w d v T:=by
 induction h with
 | mk h ts h1 h2 h3 h4 h5 hl h6 h7 h8 ih=>
  refine .mk h ts h1 h2 h3 h4 h5 hl ih (fun hn k hk=>hS k (h7 hn k hk) (h2.blt hn hk)) (fun hn k hk=>hS k (h8 hn k hk) ?_);have hne:h.ks.flatMap cellsOf≠[]:=by
   intro e;have h0:=List.length_pos_iff.2 hn;have h9:=(h6 0 h0 om).len8;have h10:cellsOf h.ks[0]=[]:=by
    rw[List.flatMap_eq_nil_iff] at e;exact e _ (List.getElem_mem h0)
   rw[h10] at h9;simp at h9
  obtain⟨bb,o,hA,hc⟩:=h5 hne;rw[hA] at hk;have:bb=k:=by simpa using hk
  subst this;exact World.block_lt_of_cell? _ _ (hc 0 (List.length_pos_iff.2 hne))
end TreeG
theorem each_ex {α β:Type}{R:α->β->Prop}:∀{l:List α},(∀u∈l,∃t,R u t)->∃ts:List β,l.length=ts.length/\∀i (hi:i<l.length) (hj:i<ts.length),R l[i] ts[i]
 | [],_=>⟨[],rfl,fun i hi=>by simp at hi⟩
 | x::l,h=>by
  obtain⟨t,ht⟩:=h x si;obtain⟨ts,h1,h2⟩:=each_ex (l:=l) (fun u hu=>h u (by simp[hu]));refine⟨t::ts,by simp[h1],fun i hi hj=>?_⟩
  cases i with
  | zero=>exact ht
  | succ i=>exact h2 i (by simpa using hi) (by simpa using hj)
namespace TreeAt
variable {b:Nat} {S S':Nat->Prop} {w w':World} {d:Nat} {v:Value}
theorem mk {d:Nat}(h:Nd)(h1:NdOk b h)(h2:SL w h.A h.c h.l)(h3:h.ks.length<=h.kc)(h4:h.kc<=maxLen)(h5:CellsAt w h.K (h.ks.flatMap cellsOf))(h6:∀u∈h.ks,TreeAt b S w d u)(h7:h.l≠[]->∀k,h.A.map (·.block)=some k->S k)(h8:h.ks≠[]->∀k,h.K.map (·.block)=some k->S k):TreeAt b S w (d+1) h.val:=by
 obtain⟨ts,e1,e2⟩:=each_ex h6;exact⟨_,.mk h ts h1 h2 h3 h4 h5 e1 e2 h7 h8⟩
theorem ext (h:TreeAt b S w d v)(x:Ext w w'):TreeAt b S w' d v:=⟨_,h.choose_spec.ext x⟩
theorem node (h:TreeAt b S w (d+1) v):∃n:Nd,v=n.val/\NdOk b n/\SL w n.A n.c n.l/\n.ks.length<=n.kc/\n.kc<=maxLen/\CellsAt w n.K (n.ks.flatMap cellsOf)/\∀u∈n.ks,TreeAt b S w d u:=by
 obtain⟨T,h⟩:=h;obtain⟨n,e,h1,h2,h3,h4,h5,_,h6,h7⟩:=h.node;refine⟨n,e,h1,h2,h3,h4,h5,fun u hu=>?_⟩;obtain⟨i,hi,rfl⟩:=List.getElem_of_mem hu;exact⟨_,h7 i hi om⟩
theorem pos (h:TreeAt b S w d v):∃e,d=e+1:=h.choose_spec.pos
theorem len8 (h:TreeAt b S w d v):(cellsOf v).length=8:=h.choose_spec.len8
theorem imp (h:TreeAt b S w d v)(hS:∀k,S k->k<w.heap.size->S' k):TreeAt b S' w d v:=⟨_,h.choose_spec.imp hS⟩
end TreeAt
theorem kid_cells {bd:Nat}{S:Nat->Prop}{w:World}{d:Nat}{K:Option Addr}{ks:List Value}(hc:CellsAt w K (ks.flatMap cellsOf))(ht:∀u∈ks,TreeAt bd S w d u){i:Nat}(hi:i<ks.length) :
 ∃b o,K=some ⟨b,o,none⟩/\∃n:Nd,ks[i]=n.val/\∀j (hj:j<8),w.cell? ⟨b,o+i*8+j,none⟩=n.cs[j]?:=by
 have len8:∀u∈ks,(cellsOf u).length=8:=fun u hu=>by
  obtain⟨e,rfl⟩:=(ht u hu).pos;obtain⟨n,rfl,_⟩:=(ht u hu).node
  rfl
 have hlen:∀l:List Value,(∀u∈l,(cellsOf u).length=8)->(l.flatMap cellsOf).length=l.length*8:=by
  intro l h;induction l with
  | nil=>rfl
  | cons y l ih=>rw[List.flatMap_cons,List.length_append,h y si,ih (fun u hu=>h u (by simp[hu])),List.length_cons];omega
 have hne:ks.flatMap cellsOf≠[]:=by
  intro e;have:=hlen ks len8;rw[e] at this;simp at this;omega
 obtain⟨b,o,rfl,hcell⟩:=hc hne;obtain⟨e,rfl⟩:=(ht _ (List.getElem_mem hi)).pos;obtain⟨n,hn,_⟩:=(ht _ (List.getElem_mem hi)).node;refine⟨b,o,rfl,n,hn,fun j hj=>?_⟩;have get:∀(l:List Value) (i:Nat) (hi:i<l.length),(∀u∈l,(cellsOf u).length=8)->(l.flatMap cellsOf)[i*8+j]? = (cellsOf l[i])[j]?:=by
  intro l;induction l with
  | nil=>intro i hi;simp at hi
  | cons y l ih=>
   intro i hi h;rw[List.flatMap_cons]
   cases i with
   | zero=>rw[List.getElem?_append_left (by rw[h y si];omega)];simp
   | succ i=>
    rw[List.getElem?_append_right (by rw[h y si];omega),h y si];have e1:(i+1)*8+j-8=i*8+j:=om;rw[e1,ih i (by simpa using hi) (fun u hu=>h u (by simp[hu]))]
    simp
 have hlt:i*8+j<(ks.flatMap cellsOf).length:=by rw[hlen ks len8];omega
 have h1:=hcell (i*8+j) hlt;rw[Nat.add_assoc,h1,<-List.getElem?_eq_getElem hlt,get ks i hi len8,hn,Nd.cells]
def setRe (w:World)(g:Nat)(n:Nd):World:=
 ((((((((w.setCell ⟨g,0,none⟩ (.int .i64 n.op)).setCell ⟨g,1,none⟩ (.slice n.A n.l.length n.c)).setCell ⟨g,2,none⟩ (.slice n.K n.ks.length n.kc)).setCell ⟨g,3,none⟩ (.int .i64 n.mn)).setCell ⟨g,4,none⟩ (.int .i64 n.mx)).setCell ⟨g,5,none⟩ (.int .i64 n.md)).setCell ⟨g,6,none⟩ (.int .i64 n.n)).setCell ⟨g,7,none⟩ (.bool n.neg))
theorem setRe_blk {w:World}{g T:Nat}{a0 a1 a2 a3 a4 a5 a6 a7:Value}(h:Blk w g T #[a0,a1,a2,a3,a4,a5,a6,a7])(n:Nd):Blk (setRe w g n) g T n.cs.toArray:=by
 have b:=(((((((h.set 0 (.int .i64 n.op)).set 1 (.slice n.A n.l.length n.c)).set 2 (.slice n.K n.ks.length n.kc)).set 3 (.int .i64 n.mn)).set 4 (.int .i64 n.mx)).set 5 (.int .i64 n.md)).set 6 (.int .i64 n.n)).set 7 (.bool n.neg)
 simpa[Nd.cs,setRe] using b
theorem setRe_kp {p:Nat->Prop}{a w:World}{g:Nat}(h:KpP p a w)(hg:p g\/a.heap.size<=g)(n:Nd):KpP p a (setRe w g n):=
 ((((((((h.set (x:=⟨g,0,none⟩) hg _).set (x:=⟨g,1,none⟩) hg _).set (x:=⟨g,2,none⟩) hg _).set (x:=⟨g,3,none⟩) hg _).set (x:=⟨g,4,none⟩) hg _).set (x:=⟨g,5,none⟩) hg _).set (x:=⟨g,6,none⟩) hg _).set (x:=⟨g,7,none⟩) hg _)
theorem setRe_ext {a w:World}{g:Nat}(h:Ext a w)(hg:a.heap.size<=g)(n:Nd):Ext a (setRe w g n):=
 ((((((((h.setNew (p:=⟨g,0,none⟩) hg _).setNew (p:=⟨g,1,none⟩) hg _).setNew (p:=⟨g,2,none⟩) hg _).setNew (p:=⟨g,3,none⟩) hg _).setNew (p:=⟨g,4,none⟩) hg _).setNew (p:=⟨g,5,none⟩) hg _).setNew (p:=⟨g,6,none⟩) hg _).setNew (p:=⟨g,7,none⟩) hg _)
theorem nd_cells {w:World}{g T:Nat}{n:Nd}(h:Blk w g T n.cs.toArray):w.cell? ⟨g,0,none⟩=some (.int .i64 n.op)/\w.cell? ⟨g,1,none⟩=some (.slice n.A n.l.length n.c)/\w.cell? ⟨g,2,none⟩=some (.slice n.K n.ks.length n.kc)/\w.cell? ⟨g,3,none⟩=some (.int .i64 n.mn)/\
 w.cell? ⟨g,4,none⟩=some (.int .i64 n.mx)/\w.cell? ⟨g,5,none⟩=some (.int .i64 n.md)/\w.cell? ⟨g,6,none⟩=some (.int .i64 n.n)/\w.cell? ⟨g,7,none⟩=some (.bool n.neg):=
 ⟨h.cell 0,h.cell 1,h.cell 2,h.cell 3,h.cell 4,h.cell 5,h.cell 6,h.cell 7⟩
theorem nd_frz {w:World}{g T:Nat}{cs:Array Value}(h:Blk w g T cs):w.frozen? ⟨g,0,none⟩=false/\w.frozen? ⟨g,1,none⟩=false/\w.frozen? ⟨g,2,none⟩=false/\w.frozen? ⟨g,3,none⟩=false/\w.frozen? ⟨g,4,none⟩=false/\w.frozen? ⟨g,5,none⟩=false/\w.frozen? ⟨g,6,none⟩=false/\w.frozen? ⟨g,7,none⟩=false:=
 ⟨h.frz 0,h.frz 1,h.frz 2,h.frz 3,h.frz 4,h.frz 5,h.frz 6,h.frz 7⟩
def SetE (E:List Int)(l:List Sp):Prop:=l.length<=3/\∀s∈l,s.1∈E/\s.2+1∈E
def rimE:List Int:=[0,10,97,98,99,100,256,11]
theorem SetE.nil (E:List Int):SetE E []:=⟨by simp,by simp⟩
theorem setE_of {l:List Sp}(h:SetOk l):SetE rimE l:=by
 refine⟨by have:=h.1;omega,fun s hs=>?_⟩;obtain⟨⟨h1,h2⟩,_⟩:=h.2 s hs;constructor
 ·revert h1;simp only[rimE,List.mem_cons,List.not_mem_nil,or_false];omega
 ·revert h2;simp only[rimE,List.mem_cons,List.not_mem_nil,or_false];omega
theorem OwnS.lowerN {w:World}{base base' e size n c:Nat}{A:Option Addr}{xs:List Value}(h:OwnS w base e size A n c xs)(hb:base'<=base):OwnS w base' e size A n c xs:=by
 refine⟨h.1,?_⟩;rcases h.2 with h|⟨g,cap,cur,h1,h2,h3⟩
 ·exact Or.inl h
 ·exact Or.inr ⟨g,cap,cur,h1,Nat.le_trans hb h2,h3⟩
def HinOk (w0:World)(h:Hin):Prop:=h.wf/\SL w0 h.A h.c h.l/\SetE rimE h.l
theorem HinOk.plain (w0:World){op x y n:Int}(h:I64 op/\I64 x/\I64 y/\I64 n):HinOk w0 ⟨op,x,y,n,none,0,[]⟩:=⟨h,SL.nil _,SetE.nil _⟩
structure CdI (w0 base w:World)(T:Nat)(A:Option Addr)(c:Nat)(hs:List Hin):Prop where
 own:OwnS w base.heap.size T 5 A hs.length c (flatN hs)
 ok:∀h∈hs,HinOk w0 h
 ext:Ext base w
theorem CdI.nil {w0 base w:World}{T:Nat}(h:Ext base w):CdI w0 base w T none 0 []:=⟨OwnS.nil _ _ _ _,by simp,h⟩
theorem CdI.up {w0 base w w':World}{T:Nat}{A:Option Addr}{c:Nat}{hs:List Hin}(h:CdI w0 base w T A c hs)(x:Ext w w'):CdI w0 base w' T A c hs:=⟨OwnS.ext h.own x,h.ok,h.ext.trans x⟩
theorem CdI.low {w0 base base' w:World}{T:Nat}{A:Option Addr}{c:Nat}{hs:List Hin}(h:CdI w0 base' w T A c hs)(x:Ext base base'):CdI w0 base w T A c hs:=⟨OwnS.lowerN h.own x.size,h.ok,x.trans h.ext⟩
theorem CdI.len {w0 base w:World}{T:Nat}{A:Option Addr}{c:Nat}{hs:List Hin}(h:CdI w0 base w T A c hs):hs.length<=c/\c<=9223372036854775807:=OwnS.caps h.own
theorem wpList_appN {P:Program}{w0 base w:World}{T:Nat}{ops:Array Oper}{rest:List Oper}{o:Oper}{a:Act}{Q:Exit->Act->World->Prop}(hgd:o.guard=none)(s x:Operand)(t:Nat)
 (ho:o.op=.call { callee:=.builtin .append,args:=#[s,x],argTypes:=#[t,t] })
 (i:TypeInfo) (ht:P.underlying t=some (.slice T)) (hi:P.info? T=some i) (hz:i.zero=some (.agg #[.int .i64 0,.int .i64 0,.int .i64 0,.int .i64 0,.slice none 0 0]))
 (hsize:i.size=5) (hby:i.bytes=56)
 (A:Option Addr) (c:Nat) (hs:List Hin) (hA:a.eval s=.slice A hs.length c) (hown:CdI w0 base w T A c hs)
 (B:Option Addr) (d:Nat) (ks:List Hin) (hx:a.eval x=.slice B ks.length d) (hr:CellsAt w B (flatN ks)) (hok:∀h∈ks,HinOk w0 h)
 (hb:hs.length+ks.length<=1000000) (ys:List Hin) (hys:ys=hs++ks)
 (h:∀A' c' w',CdI w0 base w' T A' c' ys->Ext base w'->(∀b,A.map (·.block)=some b->base.heap.size<=b)->w.grownBy w' (A.map (·.block))->wpList P ops Q rest (a.put o.dst (.slice A' ys.length c')) w'):wpList P ops Q (o::rest) a w:=by
 have hrow:=OwnS.row hown.own;refine wpList_app _ hgd s x t ho base.heap.size T i _ 5 56 ht hi hz hsize hby rfl om A hs.length c (flatN hs) hA hown.own B ks.length d (flatN ks) hx (flatN_len ks) hr (flatN_one ks) um om hown.ext.size ?_;intro A' c' w' ho' hg' _;have hx':=hown.ext.grown hg' hrow;have hl:ys.length=hs.length+ks.length:=by rw[hys];simp
 rw[<-hl];refine h A' c' w' ⟨?_,?_,hx'⟩ hx' hrow hg'
 ·rw[hl,hys,flatN_append];exact ho'
 ·rw[hys];intro z hz;rcases List.mem_append.1 hz with hz|hz
  ·exact hown.ok z hz
  ·exact hok z hz
theorem hin_blk {w:World}{g T:Nat}{h:Hin}(hb:Blk w g T #[.int .i64 h.op,.int .i64 h.x,.int .i64 h.y,.int .i64 h.n,.slice h.A h.l.length h.c]):CellsAt w (some ⟨g,0,none⟩) (flatN [h]):=
 blk_cells (by simpa[flatN] using hb)
theorem cd_one {w0 base w:World}{g T:Nat}{h:Hin}(hb:Blk w g T #[.int .i64 h.op,.int .i64 h.x,.int .i64 h.y,.int .i64 h.n,.slice h.A h.l.length h.c])(hg:base.heap.size<=g)(x:Ext base w)(hk:HinOk w0 h):CdI w0 base w T (some ⟨g,0,none⟩) 1 [h]:=
 ⟨by simpa[flatN] using OwnS.of_blk (n:=1) (c:=1) (size:=5) hb hg si si um,by simpa using hk,x⟩
theorem mul_step (B i:Nat):B*(i+1)=B*i+B:=Nat.mul_succ B i
theorem mul_le2 {B i j:Nat}(h:i<=j):B*i<=B*j:=Nat.mul_le_mul_left B h
def mkC (A:Option Addr)(n c:Nat)(at_ uses left caps:Int):Array Value:=#[.slice A n c,.int .i64 at_,.int .i64 uses,.int .i64 left,.int .i64 caps]
structure MkM (w w0:World)(gm:Nat)(A:Option Addr)(c:Nat)(ls:List Int)(uses B L C:Int):Prop where
 ext:Ext w0 w
 il:IL w0 A c ls
 lo:w0.heap.size<=gm
 blk:∃(at_:Nat),Blk w gm 336 (mkC A ls.length c at_ uses L C)/\(at_:Int)<=B/\-B<=L/\L<=1000/\0<=C/\C<=4
theorem MkM.extW {w w' w0:World}{gm:Nat}{A:Option Addr}{c:Nat}{ls:List Int}{uses B L C:Int}(h:MkM w w0 gm A c ls uses B L C)(x:Ext w w'):MkM w' w0 gm A c ls uses B L C:=by
 obtain⟨h1,h2,h3,at_,h4,h5⟩:=h;exact⟨h1.trans x,h2,h3,at_,h4.ext x,h5⟩
theorem MkM.mono {w w0:World}{gm:Nat}{A:Option Addr}{c:Nat}{ls:List Int}{uses B B' L C:Int}(h:MkM w w0 gm A c ls uses B L C)(hB:B<=B'):MkM w w0 gm A c ls uses B' L C:=by
 obtain⟨h1,h2,h3,at_,h4,h5,h6,h7⟩:=h;exact⟨h1,h2,h3,at_,h4,om,om,h7⟩
theorem MkM.kpR {w w' w0:World}{gm g:Nat}{A:Option Addr}{c:Nat}{ls:List Int}{uses B L C:Int}(h:MkM w w0 gm A c ls uses B L C)(k:KpP (·=g) w w')(hg:gm≠g)(h0:w0.heap.size<=g):MkM w' w0 gm A c ls uses B L C:=by
 obtain⟨h1,h2,h3,at_,h4,h5⟩:=h;exact⟨h1.kp k (fun i hi=>hi▸h0),h2,h3,at_,k.blk h4 hg,h5⟩
def RetNx (w0:World)(gm:Nat)(A:Option Addr)(c:Nat)(ls:List Int)(uses B L C n:Int)(w:World)(e:Ending)(w':World):Prop:=
 ∃v:Int,e=.returned (.int .i64 v)/\0<=v/\v<n/\MkM w' w0 gm A c ls uses B L C/\KpP (·=gm) w w'
def RetNxE (w0:World)(gm:Nat)(A:Option Addr)(n c:Nat)(at_ uses left caps v:Int)(w:World)(e:Ending)(w':World):Prop:=
 e=.returned (.int .i64 v)/\Blk w' gm 336 (mkC A n c at_ uses left caps)/\Ext w0 w'/\KpP (·=gm) w w'
theorem ynext_at (w0 w:World)(gm:Nat)(A:Option Addr)(c:Nat)(ls:List Int)(uses n:Int)(x0:Ext w0 w)(il:IL w0 A c ls)(lo:w0.heap.size<=gm)(at_:Nat)(left caps:Int)(hb:Blk w gm 336 (mkC A ls.length c at_ uses left caps))(hat:(at_:Int)<=100000000)
 (h0:1<=n) (h1:n<=1000) :
 Calls Tryz.prog 273 #[.pointer (some ⟨gm,0,none⟩),.int .i64 n] w (RetNxE w0 gm A ls.length c ((at_:Int)+1) uses left caps (pick ls at_ n) w):=by
 have c1:w.cell? ⟨gm,1,none⟩=some (.int .i64 at_):=hb.cell 1;have f1:=hb.frz 1;have ewp:IntKind.i64.wrap ((at_:Int)+1)=(at_:Int)+1:=wj;have hll:=il.len;go_enter Tryz.func273,Tryz.ntmps273
 go_upto_region 2 with fail
 have K2:KpP (·=gm) w (w.setCell ⟨gm,1,none⟩ (.int .i64 ((at_:Int)+1))):=KpP.set (p:=(·=gm)) (x:=⟨gm,1,none⟩) (KpP.refl _ _) (.inl rfl) _;have X2:Ext w0 (w.setCell ⟨gm,1,none⟩ (.int .i64 ((at_:Int)+1))):=x0.setNew (p:=⟨gm,1,none⟩) lo _;have b2:=hb.set 1 (.int .i64 ((at_:Int)+1));generalize w.setCell ⟨gm,1,none⟩ (.int .i64 ((at_:Int)+1))=w2 at *;have d0:w2.cell? ⟨gm,0,none⟩=some (.slice A ls.length c):=b2.cell 0;have d1:w2.cell? ⟨gm,1,none⟩=some (.int .i64 ((at_:Int)+1)):=b2.cell 1;have ewm:IntKind.i64.wrap ((at_:Int)+1-1)=(at_:Int):=wj;have HI:=lh (il.ext X2);have HB2:=lh b2;clear b2 c1 f1 hb
 go_wp2_with (go_quiet (first|(go_at_call 102;refine Calls.quiet_of (pick_any A c ls at_ n _ (HI.out.ext (Ext.drewN _ _)) h0 om om))))
 go_ret
 refine⟨rfl,?_,X2.trans (Ext.drewN _ _),K2.trans (KpP.of_ext (Ext.drewN _ _))⟩;have b:=HB2.out.ext (Ext.drewN w2 nq)
 simpa[mkC] using b
theorem ynext_any (w0 w:World)(gm:Nat)(A:Option Addr)(c:Nat)(ls:List Int)(uses B L C n:Int)(h:MkM w w0 gm A c ls uses B L C)(hB:B<=100000000)(h0:1<=n)(h1:n<=1000) :
 Calls Tryz.prog 273 #[.pointer (some ⟨gm,0,none⟩),.int .i64 n] w (RetNx w0 gm A c ls uses (B+1) L C n w):=by
 obtain⟨x0,il,lo,at_,hb,hat,hl1,hl2,hc1,hc2⟩:=h;refine(ynext_at w0 w gm A c ls uses n x0 il lo at_ L C hb om h0 h1).mono ?_;rintro e w' ⟨h1,h2,h3,h4⟩;have hp:=pick_bd ls at_ n h0;exact⟨_,h1,hp.1,hp.2,⟨h3,il,lo,at_+1,by simpa using h2,om,om,om,om,om⟩,h4⟩
theorem Tm.ind {P:Tm->Prop}(H:∀T,(∀t∈T.kids,P t)->P T):∀T,P T
 | .k0 h=>H _ (by simp[Tm.kids])
 | .k1 h a=>H _ (by simp only[Tm.kids,List.mem_singleton];rintro t rfl;exact Tm.ind H _)
 | .k2 h a b=>H _ (by simp only[Tm.kids,List.mem_cons,List.not_mem_nil,or_false];rintro t (rfl|rfl)<;>exact Tm.ind H _)
 | .k3 h a b c=>H _ (by simp only[Tm.kids,List.mem_cons,List.not_mem_nil,or_false];rintro t (rfl|rfl|rfl)<;>exact Tm.ind H _)
def Tm.fold {α:Type}(f:Hd->List α->α):Tm->α
 | .k0 h=>f h []
 | .k1 h a=>f h [a.fold f]
 | .k2 h a b=>f h [a.fold f,b.fold f]
 | .k3 h a b c=>f h [a.fold f,b.fold f,c.fold f]
theorem Tm.fold_eq {α:Type}(f:Hd->List α->α):∀T:Tm,T.fold f=f T.hd (T.kids.map (Tm.fold f))
 | .k0 _=>rfl
 | .k1 _ _=>rfl
 | .k2 _ _ _=>rfl
 | .k3 _ _ _ _=>rfl
def nulF (h:Hd)(l:List Bool):Bool:=
 if h.op=1 then false else if h.op=2 then l.all id else if h.op=3 then l.any id else if h.op=4 then decide (h.mn<=0) || l.headD false else if h.op=5 then l.headD false else true
def nul:Tm->Bool:=Tm.fold nulF
theorem nul_eq (T:Tm):nul T=nulF T.hd (T.kids.map nul):=Tm.fold_eq _ _
def cnt:Tm->Nat:=Tm.fold (fun _ l=>1+l.sum)
theorem cnt_eq (T:Tm):cnt T=1+(T.kids.map cnt).sum:=Tm.fold_eq _ _
def sets8:List (List Sp):=[[(97,97)],[(98,98)],[(97,98)],[(99,99)],[(97,99)],[(0,96),(98,255)],[(10,10),(97,97)],[]]
structure HdOk (u C:Int)(h:Hd)(ks:List Tm):Prop where
 neg:h.neg=false
 num:(h.op=0/\h.l=[]/\h.mn=0/\h.mx=0/\h.md=0/\h.n=0/\ks=[])\/(h.op=1/\h.l∈sets8/\h.mn=0/\h.mx=0/\h.md=0/\h.n=0/\ks=[])\/
  ((h.op=2\/h.op=3)/\h.l=[]/\h.mn=0/\h.mx=0/\h.md=0/\h.n=0/\2<=ks.length/\ks.length<=3)\/
  (h.op=4/\h.l=[]/\(0<=h.mn/\h.mn<=2/\(h.mx = -1\/(1<=h.mx/\h.mx<=3/\h.mn<=h.mx)))/\(h.md=0\/h.md=1)/\h.n=0/\∃t,ks=[t]/\nul t=false)\/
  (h.op=5/\Go.bits BinOp.and IntKind.i64 u 64≠0/\h.l=[]/\h.mn=0/\h.mx=0/\h.md=0/\1<=h.n/\h.n<=C/\ks.length=1)\/
  (h.op=11/\Go.bits BinOp.and IntKind.i64 u 16≠0/\h.l=[]/\h.mn=0/\h.mx=0/\h.md=0/\0<=h.n/\h.n<=5/\ks=[])
inductive GdT (u C:Int):Tm->Prop
 | mk (T:Tm):HdOk u C T.hd T.kids->(∀t∈T.kids,GdT u C t)->GdT u C T
theorem HdOk.mono {u C C':Int}{h:Hd}{ks:List Tm}(k:HdOk u C h ks)(hc:C<=C'):HdOk u C' h ks:=⟨k.neg,by
 rcases k.num with h|h|h|h|⟨h1,h2,h3,h4,h5,h6,h7,h8,h9⟩|h
 ·exact .inl h
 ·exact .inr (.inl h)
 ·exact .inr (.inr (.inl h))
 ·exact .inr (.inr (.inr (.inl h)))
 ·exact .inr (.inr (.inr (.inr (.inl ⟨h1,h2,h3,h4,h5,h6,h7,om,h9⟩))))
 ·exact .inr (.inr (.inr (.inr (.inr h))))⟩
theorem GdT.mono {u C C':Int}(hc:C<=C'){T:Tm}(h:GdT u C T):GdT u C' T:=by
 induction h with
 | mk T h _ ih=>exact .mk T (h.mono hc) ih
def TrN (u:Int)(S:Nat->Prop)(w:World)(d:Nat)(v:Value)(C k:Int):Prop:=∃T,TreeG 3 S w d v T/\GdT u C T/\(cnt T:Int)<=k
namespace TrN
variable {u C C' k k':Int} {S S':Nat->Prop} {w w':World} {d:Nat} {v:Value}
theorem at_ (h:TrN u S w d v C k):TreeAt 3 S w d v:=⟨_,h.choose_spec.1⟩
theorem ext (h:TrN u S w d v C k)(x:Ext w w'):TrN u S w' d v C k:=by obtain⟨T,h1,h2⟩:=h;exact⟨T,h1.ext x,h2⟩
theorem kp {q:Nat->Prop}(h:TrN u S w d v C k)(x:KpP q w w')(hq:∀i,q i->¬S i):TrN u S w' d v C k:=by obtain⟨T,h1,h2⟩:=h;exact⟨T,h1.kp x hq,h2⟩
theorem imp (h:TrN u S w d v C k)(hS:∀k,S k->k<w.heap.size->S' k):TrN u S' w d v C k:=by obtain⟨T,h1,h2⟩:=h;exact⟨T,h1.imp hS,h2⟩
theorem mono (h:TrN u S w d v C k){e:Nat}(he:d<=e):TrN u S w e v C k:=by obtain⟨T,h1,h2⟩:=h;exact⟨T,h1.mono he,h2⟩
theorem up (h:TrN u S w d v C k)(hc:C<=C')(hk:k<=k'):TrN u S w d v C' k':=by obtain⟨T,h1,h2,h3⟩:=h;exact⟨T,h1,h2.mono hc,om⟩
end TrN
def KdT (u:Int)(S:Nat->Prop)(w:World)(d:Nat)(ks:List Value)(C k:Int):Prop:=∃ts:List Tm,ks.length=ts.length/\(∀i (hi:i<ks.length) (hj:i<ts.length),TreeG 3 S w d ks[i] ts[i])/\(∀t∈ts,GdT u C t)/\(((ts.map cnt).sum:Nat):Int)<=k
namespace KdT
variable {u C C' k k' j:Int} {S S':Nat->Prop} {w w':World} {d:Nat} {ks:List Value} {v:Value}
theorem nil (hk:0<=k):KdT u S w d [] C k:=⟨[],rfl,fun i hi=>by simp at hi,by simp,by simpa using hk⟩
theorem ext (h:KdT u S w d ks C k)(x:Ext w w'):KdT u S w' d ks C k:=by obtain⟨ts,h1,h2,h3⟩:=h;exact⟨ts,h1,fun i hi hj=>(h2 i hi hj).ext x,h3⟩
theorem kp {q:Nat->Prop}(h:KdT u S w d ks C k)(x:KpP q w w')(hq:∀i,q i->¬S i):KdT u S w' d ks C k:=by obtain⟨ts,h1,h2,h3⟩:=h;exact⟨ts,h1,fun i hi hj=>(h2 i hi hj).kp x hq,h3⟩
theorem imp (h:KdT u S w d ks C k)(hS:∀k,S k->k<w.heap.size->S' k):KdT u S' w d ks C k:=by obtain⟨ts,h1,h2,h3⟩:=h;exact⟨ts,h1,fun i hi hj=>(h2 i hi hj).imp hS,h3⟩
theorem up (h:KdT u S w d ks C k)(hc:C<=C')(hk:k<=k'):KdT u S w d ks C' k':=by obtain⟨ts,h1,h2,h3,h4⟩:=h;exact⟨ts,h1,h2,fun t ht=>(h3 t ht).mono hc,om⟩
theorem push (h:KdT u S w d ks C k)(hv:TrN u S w d v C j):KdT u S w d (ks++[v]) C (k+j):=by
 obtain⟨ts,h1,h2,h3,h4⟩:=h;obtain⟨T,g1,g2,g3⟩:=hv;refine⟨ts++[T],by simp[h1],fun i hi hj=>?_,fun t ht=>?_,?_⟩
 ·by_cases hlt:i<ks.length
  ·rw[List.getElem_append_left hlt,List.getElem_append_left om];exact h2 i hlt om
  ·have hi':i=ks.length:=by simp at hi;omega
   subst hi';have a1:(ks++[v])[ks.length]=v:=by simp
   have a2:(ts++[T])[ks.length]=T:=by simp[h1]
   rw[a1,a2];exact g1
 ·rcases List.mem_append.1 ht with ht|ht
  ·exact h3 t ht
  ·rw[List.mem_singleton.1 ht];exact g2
 ·rw[List.map_append,List.sum_append];simp only[List.map_cons,List.map_nil,List.sum_cons,List.sum_nil,Nat.add_zero]
  push_cast
  omega
end KdT
theorem rTextO_any (A:Option Addr)(c:Nat)(l:List Int)(m:Nat)(w:World)(hl:IL w A c l)(hm:m<=1000000) :
 Calls Tryz.prog 40 #[.slice A l.length c,.int .i64 m] w (RetOI (rtext l m) w):=by
 obtain⟨i0,hi0,hz0,hz1,hz2⟩:=info_parts infoInt;obtain⟨a1,a2⟩:=hl.len;go_enter Tryz.func40,Tryz.ntmps40
 go_wp2
 go_loopw [5,6] (fun v i wr=>∃(k:Nat) (A':Option Addr) (c':Nat),k<=l.length/\k<=m/\i=.int .i64 k/\v=.slice A' (rtext l k).length c'/\OwnI wr w.heap.size 3 A' c' (rtext l k)/\Ext w wr) (fun _ i _=>l.length-(intOf i).toNat)
 case atStart=>exact⟨0,none,0,Nat.zero_le _,Nat.zero_le _,rfl,rfl,OwnS.nil _ _ _ _,Ext.rfl' _⟩
 case round=>
  obtain⟨k,A',c',hk,hkm,rfl,rfl,hown,hext⟩:=hrel;have hlr:=rtext_len l k;by_cases hlt:k<l.length
  ·by_cases hlm:k<m
   ·have e1:=Ext.alloc wr (.cells (tab12.map (Value.int .i64)).toArray 3);have hB:=(Blk.new wr 3 (tab12.map (Value.int .i64)).toArray);have hs:=rtext_succ l k hlt;have hp:=around_bd l[k] 12 om;have hpk:pick l k 12=around l[k] 12:=by simp[pick,hlt]
    obtain⟨p,hp12,hpp⟩:∃p:Nat,p<12/\around l[k] 12=(p:Int):=⟨(around l[k] 12).toNat,om,om⟩;have hsy:sym12 l[k]=tab12.getD p 0:=by unfold sym12;rw[hpp];rfl
    rw[hsy] at hs;rw[hpp] at hpk;have HS:=lh hs;have HP:=lh hpk;clear hs hpk hsy hpp hp
    go_wp2_with fail
    refine(pick_any A c l k 12 _ (hl.ext (hext.trans e1)) om om om).mono ?_;rintro e w1 h1;obtain⟨rfl,hx1⟩:=h1.v;rw[HP.out];have hcell:=(hB.ext hx1).cell p;rw[show((tab12.map (Value.int .i64)).toArray)[p]? = some (.int .i64 (tab12.getD p 0)) by
     simp[List.getD,List.getElem?_eq_getElem (show p<tab12.length from hp12)]] at hcell
    have hE:=hext.trans (e1.trans hx1);have hown1:=OwnS.ext hown (e1.trans hx1);have hlt1:=(hB.ext hx1).lt;clear hB;have hp0:(p:Int)<12:=om;have HT:=lh (tab12_bd p hp12);generalize tab12.getD p 0=s at *
    go_wp2_with ((at_builtin;refine wpList_app1I (w1:=w1) rfl _ _ _ rfl 3 infoInt Tryz.underlying22 w hE s rfl A' c' (rtext l k) rfl hown1 rfl om (rtext l (k+1)) HS.out ?_;intro A2 c2 w2 hown2 hext2 _ _))
    go_roundw
    case rel=>exact⟨k+1,A2,c2,om,om,by go_num,rfl,hown2,hext2⟩
    case measure=>simp[intOf];omega
   ·have hk':k=m:=om;subst hk'
    go_wp2
    go_ret
    exact⟨A',c',rfl,hown,fun x hx=>I64_of (by have:=rtext_bd l k x hx;omega),hext⟩
  ·have hk':rtext l k=rtext l m:=by
    unfold rtext;rw[List.take_of_length_le om,List.take_of_length_le om]
   rw[hk'] at hown;have HK:=lh hk';clear hk'
   go_wp2
   go_ret
   rw[<-HK.out] at hown ⊢;exact⟨A',c',rfl,hown,fun x hx=>I64_of (by have:=rtext_bd l k x hx;omega),hext⟩
theorem rText_any (A:Option Addr)(c:Nat)(l:List Int)(m:Nat)(w:World)(hl:IL w A c l)(hm:m<=1000000) :
 Calls Tryz.prog 40 #[.slice A l.length c,.int .i64 m] w (RetIL (rtext l m) w):=
 (rTextO_any A c l m w hl hm).mono (fun _ _ ⟨A',c',h1,ho,hr,x⟩=>⟨A',c',h1,IL.of_own ho hr,x,OwnS.row ho⟩)
def tb14:List Int:=[97,98,99,97,90,48,95,10,32,98,228,255,0,128]
def tb10:List Int:=[127,128,2047,2048,55295,57344,65535,65536,1114111,8364]
theorem tb14_ok (rn:Bool):∀p,p<14->symV rn (tb14.getD p 0)=true/\I64 (tb14.getD p 0):=by
 cases rn<;>(unfold I64;decide)
theorem tb10_ok:∀p,p<10->symV true (tb10.getD p 0)=true/\I64 (tb10.getD p 0):=by unfold I64;decide
def RetT4 (rn:Bool)(m:Nat)(w:World)(e:Ending)(w':World):Prop:=∃(A:Option Addr) (c:Nat) (ts:List Int),e=.returned (.slice A ts.length c)/\OwnI w' w.heap.size 3 A c ts/\(∀x∈ts,I64 x)/\ts.all (symV rn)=true/\ts.length<=m/\Ext w w'
theorem i64_snoc {ts:List Int}{s:Int}(h:∀z∈ts,I64 z)(hs:I64 s):∀z∈ts++[s],I64 z:=fun z hz=>by
 rcases List.mem_append.1 hz with hz|hz
 ·exact h z hz
 ·rw[List.mem_singleton.1 hz];exact hs
theorem all_snoc {p:Int->Bool}{ts:List Int}{s:Int}(h:ts.all p=true)(hs:p s=true):(ts++[s]).all p=true:=by simp[h,hs]
theorem V9z3 {P:Prop} (h:P:=by
 clear ho5 hg5 hat5
 go_wp2_with fail
 go_roundw
 case rel=>exact⟨k+1,A5,c5,ts++[s],by go_num,by go_num,om,om,HN,HO5,X5⟩
 case measure=>simp[intOf];omega):P:=h
theorem V9z1 {P:Prop} (h:P:=by
 have HO5:=lh (show OwnI w5 w.heap.size 3 A5 c5 (ts++[s])/\(∀z∈ts++[s],I64 z)/\(ts++[s]).all (symV true)=true from⟨by unfold OwnI;rw[HN.out,List.map_append];exact ho5,i64_snoc HO.out.2.1 HSY.out.2,all_snoc HO.out.2.2 HSY.out.1⟩);exact V9z3):P:=h
theorem V9z2 {P:Prop} (h:P:=by
 have HF:=lh (show RetT4 rn m w (.returned (.slice A' k c')) wr from⟨A',c',ts,by rw[HLT.out],HO.out.1,HO.out.2.1,HO.out.2.2,by rw[HLT.out];exact hkm,x1⟩)
 go_wp2_with fail
 go_ret
 exact HF.out):P:=h
theorem text4_any (A:Option Addr)(c:Nat)(l:List Int)(m:Nat)(rn:Bool)(w:World)(hl:IL w A c l)(hm:m<=1000000) :
 Calls Tryz.prog 60 #[.slice A l.length c,.int .i64 m,.bool rn] w (RetT4 rn m w):=by
 have hcl:=hl.len;obtain⟨i0,hi0,hz0,hz1,hz2⟩:=info_parts infoInt;have HL:=lh hl;clear hl;go_enter Tryz.func60,Tryz.ntmps60
 go_upto_region 3 with fail
 go_loopw [7,8] (fun v i wr=>∃(k:Nat) (A':Option Addr) (c':Nat) (ts:List Int),v=.slice A' k c'/\i=.int .i64 k/\k<=l.length/\k<=m/\Hid (ts.length=k)/\Hid (OwnI wr w.heap.size 3 A' c' ts/\(∀x∈ts,I64 x)/\ts.all (symV rn)=true)/\Ext w wr) (fun _ i _=>l.length-(intOf i).toNat)
 case atStart=>exact⟨0,none,0,[],rfl,rfl,om,om,lh rfl,lh ⟨OwnS.nil _ _ _ _,by simp,rfl⟩,Ext.rfl' _⟩
 case round=>
  obtain⟨k,A',c',ts,rfl,rfl,hk,hkm,HLT,HO,x1⟩:=hrel;by_cases hlt:k<l.length
  ·by_cases hlm:k<m
   ·have hkI:(k:Int)<l.length:=om;have hkM:(k:Int)<m:=om;obtain⟨b,o,hA,c0⟩:=(HL.out.ext x1).get hlt;have hI:=(HL.out.ext x1).rng l[k] (List.getElem_mem hlt);generalize l[k]=x at *;subst hA;have HAR:=lh (around_any x 1048576 wr hI om om);have hbd:=around_bd x 1048576 om
    go_upto_region 6 with(go_at_call 13;refine HAR.out.mono ?_;rintro e w2 h2;obtain⟨rfl,x2⟩:=h2.v)
    obtain⟨n,hn⟩:∃n:Nat,around x 1048576=(n:Int):=⟨(around x 1048576).toNat,om⟩;rw[hn] at hbd ⊢;have hn2:n<1048576:=om;clear hn HAR hbd c0;have X2:=x1.trans x2;have HO2:=lh (show OwnI w2 w.heap.size 3 A' c' ts from OwnS.ext HO.out.1 x2);obtain⟨s,hs14,HSY⟩:∃s:Int,(([.int .i64 97,.int .i64 98,.int .i64 99,.int .i64 97,.int .i64 90,.int .i64 48,.int .i64 95,.int .i64 10,.int .i64 32,.int .i64 98,.int .i64 228,.int .i64 255,.int .i64 0,.int .i64 128]:List Value)[n % 14]? = some (.int .i64 s))/\Hid (symV rn s=true/\I64 s):=by
     have hp:n % 14<14:=Nat.mod_lt _ om;refine⟨tb14.getD (n % 14) 0,?_,lh (tb14_ok rn (n % 14) hp)⟩;generalize n % 14=p at *
     revert p
     intro p hp;have:p=0\/p=1\/p=2\/p=3\/p=4\/p=5\/p=6\/p=7\/p=8\/p=9\/p=10\/p=11\/p=12\/p=13:=om;rcases this with h|h|h|h|h|h|h|h|h|h|h|h|h|h<;>(subst h;rfl)
    have ET:=Ext.alloc w2 (.cells #[.int .i64 97,.int .i64 98,.int .i64 99,.int .i64 97,.int .i64 90,.int .i64 48,.int .i64 95,.int .i64 10,.int .i64 32,.int .i64 98,.int .i64 228,.int .i64 255,.int .i64 0,.int .i64 128] 3)
    go_upto_region 7 with fail
    have X3:=X2.trans ET;have HO3:=lh (show OwnS w2 w.heap.size 3 1 A' k c' (ts.map (Value.int .i64)) by rw[<-HLT.out];exact HO2.out);have HO4:=lh (OwnS.ext HO3.out ET);clear hs14 ET HO3 HO2;generalize w2.alloc (.cells #[.int .i64 97,.int .i64 98,.int .i64 99,.int .i64 97,.int .i64 90,.int .i64 48,.int .i64 95,.int .i64 10,.int .i64 32,.int .i64 98,.int .i64 228,.int .i64 255,.int .i64 0,.int .i64 128] 3)=w3 at *;cases rn
    ·go_upto_region 9 with fail
     have HN:=lh (show(ts++[s]).length=k+1 by rw[List.length_append,HLT.out];rfl)
     go_upto_region 4 with(at_builtin;refine wpList_app _ rfl _ _ _ rfl w.heap.size 3 i0 _ 1 8 Tryz.underlying22 hi0 hz0 hz1 hz2 rfl om A' k c' (ts.map (Value.int .i64)) rfl (OwnS.ext HO4.out (Ext.alloc _ _)) _ 1 1 [.int .i64 s] rfl rfl (blk_cells (Blk.new _ 3 #[.int .i64 s])) (by intro u hu;rw[List.mem_singleton.1 hu];rfl) um om ((X3).trans (Ext.alloc _ _)).size ?_;intro A5 c5 w5 ho5 hg5 hat5)
     have X5:=Ext.app ((X3).trans (Ext.alloc _ _)) (OwnS.ext HO4.out (Ext.alloc _ _)) hg5;have HO5:=lh (show OwnI w5 w.heap.size 3 A5 c5 (ts++[s])/\(∀z∈ts++[s],I64 z)/\(ts++[s]).all (symV false)=true from⟨by unfold OwnI;rw[HN.out,List.map_append];exact ho5,i64_snoc HO.out.2.1 HSY.out.2,all_snoc HO.out.2.2 HSY.out.1⟩);exact V9z3
    ·by_cases h4:n / 14 % 4=0
     ·have h4I:(n:Int) / 14 % 4=0:=om;obtain⟨s,hs10,HSY⟩:∃s:Int,(([.int .i64 127,.int .i64 128,.int .i64 2047,.int .i64 2048,.int .i64 55295,.int .i64 57344,.int .i64 65535,.int .i64 65536,.int .i64 1114111,.int .i64 8364]:List Value)[n / 56 % 10]? = some (.int .i64 s))/\Hid (symV true s=true/\I64 s):=by
       have hp:n / 56 % 10<10:=Nat.mod_lt _ om;refine⟨tb10.getD (n / 56 % 10) 0,?_,lh (tb10_ok (n / 56 % 10) hp)⟩;generalize n / 56 % 10=p at *;have:p=0\/p=1\/p=2\/p=3\/p=4\/p=5\/p=6\/p=7\/p=8\/p=9:=om;rcases this with h|h|h|h|h|h|h|h|h|h<;>(subst h;rfl)
      have ET:=Ext.alloc w3 (.cells #[.int .i64 127,.int .i64 128,.int .i64 2047,.int .i64 2048,.int .i64 55295,.int .i64 57344,.int .i64 65535,.int .i64 65536,.int .i64 1114111,.int .i64 8364] 3);have X6:=X3.trans ET;have HO6:=lh (OwnS.ext HO4.out ET)
      go_upto_region 9 with fail
      clear hs10 ET;generalize w3.alloc (.cells #[.int .i64 127,.int .i64 128,.int .i64 2047,.int .i64 2048,.int .i64 55295,.int .i64 57344,.int .i64 65535,.int .i64 65536,.int .i64 1114111,.int .i64 8364] 3)=w6 at *;have HN:=lh (show(ts++[s]).length=k+1 by rw[List.length_append,HLT.out];rfl)
      go_upto_region 4 with(at_builtin;refine wpList_app _ rfl _ _ _ rfl w.heap.size 3 i0 _ 1 8 Tryz.underlying22 hi0 hz0 hz1 hz2 rfl om A' k c' (ts.map (Value.int .i64)) rfl (OwnS.ext HO6.out (Ext.alloc _ _)) _ 1 1 [.int .i64 s] rfl rfl (blk_cells (Blk.new _ 3 #[.int .i64 s])) (by intro u hu;rw[List.mem_singleton.1 hu];rfl) um om ((X6).trans (Ext.alloc _ _)).size ?_;intro A5 c5 w5 ho5 hg5 hat5)
      have X5:=Ext.app ((X6).trans (Ext.alloc _ _)) (OwnS.ext HO6.out (Ext.alloc _ _)) hg5;exact V9z1
     ·have h4I:¬(n:Int) / 14 % 4=0:=om
      go_upto_region 9 with fail
      have HN:=lh (show(ts++[s]).length=k+1 by rw[List.length_append,HLT.out];rfl)
      go_upto_region 4 with(at_builtin;refine wpList_app _ rfl _ _ _ rfl w.heap.size 3 i0 _ 1 8 Tryz.underlying22 hi0 hz0 hz1 hz2 rfl om A' k c' (ts.map (Value.int .i64)) rfl (OwnS.ext HO4.out (Ext.alloc _ _)) _ 1 1 [.int .i64 s] rfl rfl (blk_cells (Blk.new _ 3 #[.int .i64 s])) (by intro u hu;rw[List.mem_singleton.1 hu];rfl) um om ((X3).trans (Ext.alloc _ _)).size ?_;intro A5 c5 w5 ho5 hg5 hat5)
      have X5:=Ext.app ((X3).trans (Ext.alloc _ _)) (OwnS.ext HO4.out (Ext.alloc _ _)) hg5;exact V9z1
   ·have hkM:¬(k:Int)<m:=om;have hkI:(k:Int)<l.length:=om;exact V9z2
  ·have hkI:¬(k:Int)<l.length:=om;exact V9z2
def ndL (sb:Nat)(x:Int):Nd:=⟨1,some ⟨sb,0,none⟩,1,[(x,x)],none,0,[],0,0,0,0,false⟩
def RetLe (x:Int)(w:World)(e:Ending)(w':World):Prop:=∃sb,e=.returned (ndL sb x).val/\Blk w' sb 81 #[.int .i64 x,.int .i64 x]/\Ext w w'
theorem letter_any (w:World)(x:Int):Calls Tryz.prog 73 #[.int .i64 x] w (RetLe x w):=by
 have B1:=Blk.new w 61 #[.int .i64 0,.slice none 0 0,.slice none 0 0,.int .i64 0,.int .i64 0,.int .i64 0,.int .i64 0,.bool false];have E1:=Ext.alloc w (.cells #[.int .i64 0,.slice none 0 0,.slice none 0 0,.int .i64 0,.int .i64 0,.int .i64 0,.int .i64 0,.bool false] 61);go_enter Tryz.func73,Tryz.ntmps73
 go_upto_region 1 with fail
 obtain⟨g2,hg2⟩:∃g,g=w.heap.size:=⟨_,rfl⟩
 rw[<-hg2] at B1 ⊢;have hg2l:w.heap.size<=g2:=om;clear hg2;generalize w.alloc (.cells #[.int .i64 0,.slice none 0 0,.slice none 0 0,.int .i64 0,.int .i64 0,.int .i64 0,.int .i64 0,.bool false] 61)=w1 at *;have B2:=Blk.new w1 81 #[.int .i64 x,.int .i64 x];have E2:=Ext.alloc w1 (.cells #[.int .i64 x,.int .i64 x] 81);have B1':=B1.ext E2;have t0:(w1.alloc (.cells #[.int .i64 x,.int .i64 x] 81)).cell? ⟨g2,0,none⟩=some (.int .i64 0):=B1'.cell 0;have t1:(w1.alloc (.cells #[.int .i64 x,.int .i64 x] 81)).cell? ⟨g2,1,none⟩=some (.slice none 0 0):=B1'.cell 1;have t2:(w1.alloc (.cells #[.int .i64 x,.int .i64 x] 81)).cell? ⟨g2,2,none⟩=some (.slice none 0 0):=B1'.cell 2;have t3:(w1.alloc (.cells #[.int .i64 x,.int .i64 x] 81)).cell? ⟨g2,3,none⟩=some (.int .i64 0):=B1'.cell 3;have t4:(w1.alloc (.cells #[.int .i64 x,.int .i64 x] 81)).cell? ⟨g2,4,none⟩=some (.int .i64 0):=B1'.cell 4;have t5:(w1.alloc (.cells #[.int .i64 x,.int .i64 x] 81)).cell? ⟨g2,5,none⟩=some (.int .i64 0):=B1'.cell 5;have t6:(w1.alloc (.cells #[.int .i64 x,.int .i64 x] 81)).cell? ⟨g2,6,none⟩=some (.int .i64 0):=B1'.cell 6;have t7:(w1.alloc (.cells #[.int .i64 x,.int .i64 x] 81)).cell? ⟨g2,7,none⟩=some (.bool false):=B1'.cell 7;obtain⟨f0,f1,f2,f3,f4,f5,f6,f7⟩:=nd_frz B1';obtain⟨sb,hsb⟩:∃sb,sb=w1.heap.size:=⟨_,rfl⟩;have hne:sb≠g2:=by have:=B1.lt;omega
 go_wp2_with fail
 rw[<-hsb] at B2 ⊢;have b9:=setRe_blk B1' (ndL sb x);have k9:=setRe_kp (p:=(·=g2)) (KpP.refl _ (w1.alloc (.cells #[.int .i64 x,.int .i64 x] 81))) (.inl rfl) (ndL sb x);have x9:=setRe_ext (E1.trans E2) hg2l (ndL sb x);have bs9:=k9.blk B2 hne;change bodyPost _ _ _ _ _ (setRe (w1.alloc (.cells #[.int .i64 x,.int .i64 x] 81)) g2 (ndL sb x));generalize setRe (w1.alloc (.cells #[.int .i64 x,.int .i64 x] 81)) g2 (ndL sb x)=w9 at *;obtain⟨r0,r1,r2,r3,r4,r5,r6,r7⟩:=nd_cells b9;simp only[ndL,List.length_cons,List.length_nil] at r0 r1 r2 r3 r4 r5 r6 r7;exact bodyPost_ret (v:=(ndL sb x).val) (by simp[results,Tryz.results73,go_sem,r0,r1,r2,r3,r4,r5,r6,r7,Nd.val,ndL]) rfl ⟨sb,rfl,bs9,x9⟩
theorem sSame_any (A B:Option Addr)(c d:Nat)(a b:List Sp)(w:World)(ha:SL w A c a)(hb:SL w B d b):Calls Tryz.prog 20 #[.slice A a.length c,.slice B b.length d] w (RetV (.bool (decide (a=b))) w):=by
 have hla:=ha.len;have hlb:=hb.len;have HQ:=fun(x y z u:Int) (W:World)=>eqArr2 x y z u W;by_cases hl:a.length=b.length
 ·have HT:=fun h=>lh (eq_of_all hl h);have HF:=fun j h1 h2 h=>lh (ne_of_one (a:=a) (b:=b) (j:=j) h1 h2 h);generalize decide (a=b)=r at *;have hne:((a.length:Int) != (b.length:Int))=false:=by simp[hl]
  have HL:=lh hl;clear hl;go_enter Tryz.func20,Tryz.ntmps20
  go_wp2_with fail
  go_loopw [5] (fun v wr=>∃i:Nat,v=.int .i64 i/\i<=a.length/\Hid (∀j (h1:j<a.length) (h2:j<b.length),j<i->a[j]=b[j])/\Ext w wr) (fun v _=>a.length-(intOf v).toNat)
  case atStart=>exact⟨0,rfl,om,fun j _ _ hj=>absurd hj (Nat.not_lt_zero _),Ext.rfl' _⟩
  case round=>
   obtain⟨i,rfl,hi,HI,x1⟩:=hrel;by_cases hlt:i<a.length
   ·have hlt2:i<b.length:=by have:=HL.out;omega
    obtain⟨b1,o1,rfl,g1,g2⟩:=(ha.ext x1).get hlt;obtain⟨b2,o2,rfl,g3,g4⟩:=(hb.ext x1).get hlt2;have hI:(i:Int)<a.length:=om;have hI2:(i:Int)<b.length:=om;have HI2:=lh (show a[i]=b[i]->∀j (h1:j<a.length) (h2:j<b.length),j<i+1->a[j]=b[j] from fun hn j h1 h2 hji=>by
     rcases Nat.lt_or_ge j i with h3|h3
     ·exact HI.out j h1 h2 h3
     ·have:j=i:=om;subst this;exact hn)
    have HF2:=HF i hlt hlt2;generalize a[i]=s at *;generalize b[i]=t at *;obtain⟨s1,s2⟩:=s;obtain⟨t1,t2⟩:=t
    simp only at g1 g2 g3 g4 HI2 HF2
    have k1:=kc0 g1;have k2:=kc0 g2;have k3:=kc0 g3;have k4:=kc0 g4;have HEQ:=eqArr2 s1 s2 t1 t2;by_cases he:s1=t1/\s2=t2
    ·obtain⟨rfl,rfl⟩:=he;have HI3:=lh (HI2.out rfl);simp only[beq_self_eq_true,Bool.and_self] at HEQ;clear HI2 HF2 HI HT HF HQ
     go_upto_region 6 with fail
     refine Xr.start [] kr ?_;refine Xtk 0 ?_
     iterate 8(refine Xtn ?_)
     refine Xdn fun w2 hE2 hK2=>?_;have x3:=x1.trans hK2.nil;clear k1 k2 k3 k4 hE2 hK2 HEQ g1 g2 g3 g4
     go_wp2_with fail
     go_roundw
     case rel=>exact⟨i+1,by go_num,om,HI3,x3⟩
     case measure=>simp[intOf];omega
    ·have HR:=HF2 (fun e=>he (by injection e with e1 e2;exact⟨e1,e2⟩));have hbe:(s1 == t1&&s2 == t2)=false:=by
      rw[Bool.eq_false_iff];intro h;simp at h;exact he h
     rw[hbe] at HEQ;clear HI2 HF2 HI HT HF HQ hbe he
     go_upto_region 6 with fail
     refine Xr.start [] kr ?_;refine Xtk 0 ?_
     iterate 8(refine Xtn ?_)
     refine Xdn fun w2 hE2 hK2=>?_;have x3:=x1.trans hK2.nil;clear k1 k2 k3 k4 hE2 hK2 HEQ g1 g2 g3 g4
     go_wp2_with fail
     go_ret
     exact⟨by rw[HR.out];rfl,x3⟩
   ·have hI:¬(i:Int)<a.length:=om;have HR:=HT (fun j h1 h2=>HI.out j h1 h2 om);clear HT HF HI HQ
    go_wp2_with fail
    go_ret
    exact⟨by rw[HR.out];rfl,x1⟩
 ·have HR:=lh (ne_of_len hl);generalize decide (a=b)=r at *;have hne:((a.length:Int) != (b.length:Int))=true:=by simp;omega
  clear hl HQ;go_enter Tryz.func20,Tryz.ntmps20
  go_wp2_with fail
  go_ret
  exact⟨by rw[HR.out];rfl,Ext.rfl' _⟩
end
section
open Go.RowKit
def Hin.putI (h:Hin)(f:Nat)(v:Int):Hin:=match f with
 | 0=>{ h with op:=v }
 | 1=>{ h with x:=v }
 | 2=>{ h with y:=v }
 | _=>{ h with n:=v }
theorem flatN_cons (h:Hin)(hs:List Hin):flatN (h::hs)=.int .i64 h.op::.int .i64 h.x::.int .i64 h.y::.int .i64 h.n::.slice h.A h.l.length h.c::flatN hs:=rfl
theorem flatN_setI:∀(hs:List Hin) (i f:Nat) (v:Int) (hi:i<hs.length),f<4->(flatN hs).set (i*5+f) (.int .i64 v)=flatN (hs.set i (hs[i].putI f v))
 | [],i,f,v,hi,_=>by simp at hi
 | h::hs,0,f,v,_,hf=>by
  have h4:f=0\/f=1\/f=2\/f=3:=om;rcases h4 with rfl|rfl|rfl|rfl<;>simp[flatN_cons,Hin.putI]
 | h::hs,i+1,f,v,hi,hf=>by
  have ih:=flatN_setI hs i f v (by simpa using hi) hf;have e:(i+1)*5+f=i*5+f+1+1+1+1+1:=om;rw[flatN_cons,e];simp only[List.set_cons_succ,ih,List.getElem_cons_succ,flatN_cons]
theorem putI_l (h:Hin)(f:Nat)(v:Int):(h.putI f v).l=h.l/\(h.putI f v).A=h.A/\(h.putI f v).c=h.c:=by
 unfold Hin.putI;split<;>exact⟨rfl,rfl,rfl⟩
theorem putI_wf {h:Hin}{f:Nat}{v:Int}(hw:h.wf)(hv:I64 v):(h.putI f v).wf:=by
 obtain⟨h1,h2,h3,h4⟩:=hw;unfold Hin.putI;split<;>exact⟨by assumption,by assumption,by assumption,by assumption⟩
end
end Go.Proofs.YtmgpefenkilffaaGreat
