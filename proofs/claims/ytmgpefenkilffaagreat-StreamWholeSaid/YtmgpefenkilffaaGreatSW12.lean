/- Texts of this proof: O0 I0 M1 M4 M5 M2 O5 M3. -/
import Derived.Test.YtmgpefenkilffaaGreatSW05
import Derived.Test.YtmgpefenkilffaaGreatSW10
set_option linter.all false
namespace Go.Proofs.YtmgpefenkilffaaGreat
section
open Go.RowKit
attribute [local go_sem ↓] Go.wp_at_zero Go.wp_at_succ
def PnAt (bd:Nat)(w:World)(b o d:Nat):Prop:=∃n:Nd,NdP w b o n/\TreeAt bd (fun _=>True) w d n.val
theorem PnAt.ext {bd:Nat}{w w':World}{b o d:Nat}(h:PnAt bd w b o d)(x:Ext w w'):PnAt bd w' b o d:=by
 obtain⟨n,h1,h2⟩:=h;exact⟨n,h1.ext x,h2.ext x⟩
theorem Nd.cs_of {n m:Nd}(h:n.val=m.val):n.cs=m.cs:=by
 have:=congrArg cellsOf h
 rwa [Nd.cells,Nd.cells] at this
theorem NdP.of_val {w:World}{b o:Nat}{n m:Nd}(h:NdP w b o n)(e:n.val=m.val):NdP w b o m:=fun i hi=>by
 have e2:=Nd.cs_of e;have h1:=h i (by rw[e2];exact hi);rw[h1]
 congr 1
 simp only[e2]
structure PnN (bd:Nat)(w:World)(b o d:Nat)(n:Nd):Prop where
 p:NdP w b o n
 ok:NdOk bd n
 sl:SL w n.A n.c n.l
 le:n.ks.length<=n.kc
 cap:n.kc<=maxLen
 kid:∀i,i<n.ks.length->∃kb ko,n.K=some ⟨kb,ko,none⟩/\PnAt bd w kb (ko+i*8) d
theorem PnAt.pos {bd:Nat}{w:World}{b o d:Nat}(h:PnAt bd w b o d):∃e,d=e+1:=by
 obtain⟨n,_,h2⟩:=h;exact h2.pos
theorem PnN.ext {bd:Nat}{w w':World}{b o d:Nat}{n:Nd}(h:PnN bd w b o d n)(x:Ext w w'):PnN bd w' b o d n:=
 ⟨h.p.ext x,h.ok,h.sl.ext x,h.le,h.cap,fun i hi=>by
  obtain⟨kb,ko,e,hp⟩:=h.kid i hi;exact⟨kb,ko,e,hp.ext x⟩⟩
theorem NdP.c8 {w:World}{b o:Nat}{n:Nd}(h:NdP w b o n):w.cell? ⟨b,o,none⟩=some (.int .i64 n.op)/\w.cell? ⟨b,o+1,none⟩=some (.slice n.A n.l.length n.c)/\w.cell? ⟨b,o+2,none⟩=some (.slice n.K n.ks.length n.kc)/\w.cell? ⟨b,o+3,none⟩=some (.int .i64 n.mn)/\
 w.cell? ⟨b,o+4,none⟩=some (.int .i64 n.mx)/\w.cell? ⟨b,o+5,none⟩=some (.int .i64 n.md)/\w.cell? ⟨b,o+6,none⟩=some (.int .i64 n.n)/\w.cell? ⟨b,o+7,none⟩=some (.bool n.neg):=
 ⟨h 0 (by simp[Nd.cs]),h 1 (by simp[Nd.cs]),h 2 (by simp[Nd.cs]),h 3 (by simp[Nd.cs]),h 4 (by simp[Nd.cs]),h 5 (by simp[Nd.cs]),h 6 (by simp[Nd.cs]),h 7 (by simp[Nd.cs])⟩
end
section
open Go.RowKit
def PgAt (w:World)(b o d:Nat)(T:Tm):Prop:=∃n:Nd,NdP w b o n/\TreeG 3 (fun _=>True) w d n.val T
theorem PgAt.ext {w w':World}{b o d:Nat}{T:Tm}(h:PgAt w b o d T)(x:Ext w w'):PgAt w' b o d T:=by
 obtain⟨n,h1,h2⟩:=h;exact⟨n,h1.ext x,h2.ext x⟩
theorem PgAt.pn {w:World}{b o d:Nat}{T:Tm}(h:PgAt w b o d T):PnAt 3 w b o d:=by
 obtain⟨n,h1,h2⟩:=h;exact⟨n,h1,_,h2⟩
structure PgN (w:World)(b o d:Nat)(n:Nd)(T:Tm):Prop where
 pn:PnN 3 w b o d n
 hd:T.hd=n.hd
 len:n.ks.length=T.kids.length
 kid:∀i (hj:i<T.kids.length),∃kb ko,n.K=some ⟨kb,ko,none⟩/\PgAt w kb (ko+i*8) d T.kids[i]
theorem PgAt.pos {w:World}{b o d:Nat}{T:Tm}(h:PgAt w b o d T):∃e,d=e+1:=h.pn.pos
theorem PgAt.node {w:World}{b o d:Nat}{T:Tm}(h:PgAt w b o (d+1) T):∃n,PgN w b o d n T:=by
 obtain⟨n,h1,h2⟩:=h;obtain⟨m,e,k1,k2,k3,k4,k5,k6,k7,k8⟩:=h2.node;have kt:∀u∈m.ks,TreeAt 3 (fun _=>True) w d u:=fun u hu=>by
  obtain⟨i,hi,rfl⟩:=List.getElem_of_mem hu;exact⟨_,k8 i hi om⟩
 have hk:∀i (hi:i<m.ks.length) (hj:i<T.kids.length),∃kb ko,m.K=some ⟨kb,ko,none⟩/\PgAt w kb (ko+i*8) d T.kids[i]:=fun i hi hj=>by
  obtain⟨kb,ko,ek,m2,e2,hc⟩:=kid_cells k5 kt hi;refine⟨kb,ko,ek,m2,fun j hj=>?_,by rw[<-e2];exact k8 i hi hj⟩;rw[hc j (by simpa[Nd.cs] using hj),List.getElem?_eq_getElem hj]
 exact⟨m,⟨h1.of_val e,k1,k2,k3,k4,fun i hi=>by
  obtain⟨kb,ko,ek,hp⟩:=hk i hi om;exact⟨kb,ko,ek,hp.pn⟩⟩,k6,k7,fun i hj=>hk i om hj⟩
theorem PgN.ext {w w':World}{b o d:Nat}{n:Nd}{T:Tm}(h:PgN w b o d n T)(x:Ext w w'):PgN w' b o d n T:=
 ⟨h.pn.ext x,h.hd,h.len,fun i hi=>by
  obtain⟨kb,ko,e,hp⟩:=h.kid i hi;exact⟨kb,ko,e,hp.ext x⟩⟩
theorem GdT.at_ {u C:Int}{T:Tm}(h:GdT u C T):HdOk u C T.hd T.kids/\∀i (hi:i<T.kids.length),GdT u C T.kids[i]:=by
 cases h with|mk _ h1 h2=>exact⟨h1,fun i hi=>h2 _ (List.getElem_mem hi)⟩
def split1 (p q:Nat)(md:Int):Ins:=if md=1 then⟨2,(q:Int),(p:Int),0,[]⟩ else⟨2,(p:Int),(q:Int),0,[]⟩
def iterC {α:Type}(f:α->α):Nat->α->α
 | 0,x=>x
 | k+1,x=>iterC f k (f x)
theorem iterC_succ {α:Type}(f:α->α):∀(k:Nat) (x:α),iterC f (k+1) x=f (iterC f k x)
 | 0,_=>rfl
 | k+1,x=>iterC_succ f k (f x)
def setJs:List Nat->Int->List Ins->List Ins
 | [],_,c=>c
 | j::js,v,c=>setJs js v (c.modify j (fun i=>{ i with x:=v }))
def altS (f:List Ins->List Ins)(s:List Ins×List Nat):List Ins×List Nat:=
 let c1:=f (s.1++[⟨0,0,0,0,[]⟩])
 let c2:=c1++[⟨3,0,0,0,[]⟩]
 (c2.set s.1.length ⟨2,(s.1.length:Int)+1,(c2.length:Int),0,[]⟩,s.2++[c1.length])
def altL:List (List Ins->List Ins)->List Ins×List Nat->List Ins×List Nat
 | [],s=>s
 | f::fs,s=>altL fs (altS f s)
def altC (fs:List (List Ins->List Ins))(c:List Ins):List Ins:=
 let s:=altL fs.dropLast (c,[])
 let c':=(fs.getLastD id) s.1
 setJs s.2 (c'.length:Int) c'
def repS (f:List Ins->List Ins)(s:List Ins×List Nat):List Ins×List Nat:=(f (s.1++[⟨0,0,0,0,[]⟩]),s.2++[s.1.length])
def setSs (md:Int)(n:Nat):List Nat->List Ins->List Ins
 | [],c=>c
 | j::js,c=>setSs md n js (c.set j (split1 (j+1) n md))
def repC (f:List Ins->List Ins)(mn:Nat)(mx md:Int)(c:List Ins):List Ins:=
 let s:=iterC (repS f) (if mx = -1 then 1 else(mx-(mn:Int)).toNat) (iterC f mn c,[])
 let c':=if mx = -1 then s.1++[⟨3,((s.2.headD 0:Nat):Int),0,0,[]⟩] else s.1
 setSs md c'.length s.2 c'
def seqC:List (List Ins->List Ins)->List Ins->List Ins
 | [],c=>c
 | f::fs,c=>seqC fs (f c)
def codeH (h:Hd)(l:List (List Ins->List Ins)):List Ins->List Ins:=
 if h.op=1 then fun c=>c++[⟨1,0,0,0,h.l⟩] else if h.op=2 then seqC l else if h.op=3 then altC l else if h.op=4 then repC (l.headD id) h.mn.toNat h.mx h.md
 else if h.op=5 then fun c=>(l.headD id) (c++[⟨4,0,0,2*h.n-2,[]⟩])++[⟨4,0,0,2*h.n-1,[]⟩] else if h.op=11 then fun c=>c++[⟨5,0,0,h.n,[]⟩] else id
def codeT:Tm->List Ins->List Ins:=Tm.fold codeH
theorem codeT_eq (T:Tm):codeT T=codeH T.hd (T.kids.map codeT):=Tm.fold_eq _ _
theorem insL_append (a b:List Hin):insL (a++b)=insL a++insL b:=by unfold insL;exact List.map_append ..
theorem insL_set (a:List Hin)(k:Nat)(h:Hin):insL (a.set k h)=(insL a).set k h.ins:=by unfold insL;exact List.map_set ..
theorem insL_one (h:Hin):insL [h]=[h.ins]:=rfl
def altP (ts:List Tm)(i:Nat)(c:List Ins):List Ins×List Nat:=altL ((ts.take i).map codeT) (c,[])
theorem altL_snoc (f:List Ins->List Ins):∀(fs:List (List Ins->List Ins)) (s:List Ins×List Nat),altL (fs++[f]) s=altS f (altL fs s)
 | [],_=>rfl
 | g::fs,s=>altL_snoc f fs (altS g s)
theorem altP_succ (ts:List Tm)(i:Nat)(c:List Ins)(hi:i<ts.length):altP ts (i+1) c=altS (codeT ts[i]) (altP ts i c):=by
 unfold altP;rw[List.take_succ_eq_append_getElem hi,List.map_append,List.map_cons,List.map_nil,altL_snoc]
theorem altC_eq (ts:List Tm)(m:Nat)(hm:ts.length=m+1)(c:List Ins):altC (ts.map codeT) c=setJs (altP ts m c).2 ((codeT ts[m] (altP ts m c).1).length:Int) (codeT ts[m] (altP ts m c).1):=by
 have h1:(ts.map codeT).dropLast=(ts.take m).map codeT:=by rw[List.dropLast_eq_take,List.length_map,hm,<-List.map_take];rfl
 have h2:(ts.map codeT).getLastD id=codeT ts[m]:=by
  rw[List.getLastD_eq_getLast?,List.getLast?_map,List.getLast?_eq_getElem?,show ts.length-1=m by omega];simp[List.getElem?_eq_getElem (show m<ts.length by omega)]
 unfold altC;simp only[h1,h2]
 rfl
theorem setJs_step {js:List Nat}{k j:Nat}{v:Int}{c:List Ins}(h:js[k]? = some j):setJs (js.drop k) v c=setJs (js.drop (k+1)) v (c.modify j (fun i=>{ i with x:=v })):=by
 obtain⟨hk,rfl⟩:=List.getElem?_eq_some_iff.1 h;rw[List.drop_eq_getElem_cons hk];rfl
theorem setSs_step {js:List Nat}{k j n:Nat}{md:Int}{c:List Ins}(h:js[k]? = some j):setSs md n (js.drop k) c=setSs md n (js.drop (k+1)) (c.set j (split1 (j+1) n md)):=by
 obtain⟨hk,rfl⟩:=List.getElem?_eq_some_iff.1 h;rw[List.drop_eq_getElem_cons hk];rfl
theorem insL_putX {hs:List Hin}{j:Nat}(hj:j<hs.length)(v:Int):insL (hs.set j (hs[j].putI 1 v))=(insL hs).modify j (fun i=>{ i with x:=v }):=by
 rw[insL_set];refine List.ext_getElem? (fun k=>?_);rw[List.getElem?_modify,List.getElem?_set];by_cases h:j=k
 ·subst h;rw[if_pos rfl,insL_get hj,if_pos (by rw[insL_len];exact hj)];simp[Hin.putI,Hin.ins]
 ·simp[h]
def seqP (ts:List Tm)(i:Nat)(c:List Ins):List Ins:=seqC ((ts.take i).map codeT) c
theorem seqC_snoc (f:List Ins->List Ins):∀(fs:List (List Ins->List Ins)) (c:List Ins),seqC (fs++[f]) c=f (seqC fs c)
 | [],_=>rfl
 | g::fs,c=>seqC_snoc f fs (g c)
theorem seqP_succ (ts:List Tm)(i:Nat)(c:List Ins)(hi:i<ts.length):seqP ts (i+1) c=codeT ts[i] (seqP ts i c):=by
 unfold seqP;rw[List.take_succ_eq_append_getElem hi,List.map_append,List.map_cons,List.map_nil,seqC_snoc]
theorem seqP_all (ts:List Tm)(i:Nat)(c:List Ins)(hi:ts.length<=i):seqP ts i c=seqC (ts.map codeT) c:=by unfold seqP;rw[List.take_of_length_le hi]
end
section
open Go.RowKit
attribute [local go_sem ↓] Go.wp_at_zero Go.wp_at_succ
structure VB (w:World)(gs gg gp gt gw:Nat)(k:Nat):Prop where
 s:Blk w gs 3 #[.int .i64 k]
 g:Blk w gg 4 #[.bool true]
 p:∃cs,Blk w gp 63 cs/\cs[8]? = some (.int .i64 0)
 t:Blk w gt 3 #[.int .i64 255]
 f:Blk w gw 270 #[.func (Fn.func 156) #[] #[.pointer (some ⟨gs,0,none⟩),.pointer (some ⟨gg,0,none⟩),.pointer (some ⟨gp,0,none⟩),.pointer (some ⟨gt,0,none⟩),.pointer (some ⟨gw,0,none⟩)]]
 ne:gs≠gt
def VQ (gs gg:Nat):Nat->Prop:=fun b=>b=gs\/b=gg
theorem Kp.vq {gs gg:Nat}{a b:World}(h:Kp [gs,gg] a b):KpP (VQ gs gg) a b:=KpP.kp h (fun i hi=>by simpa[VQ] using hi)
theorem infoIs:(Tryz.prog.info? 129).map (fun i=>(i.zero,i.size,i.bytes))=some (some (.agg #[.int .i64 0,.int .i64 0,.int .i64 0,.int .i64 0,.slice none 0 0]),5,56):=by kernel_rfl
def KeepN (gc:Nat)(w w':World):Prop:=∀(b T:Nat) (cs:Array Value),Blk w b T cs->T≠129->b≠gc->Blk w' b T cs
theorem KeepN.refl (gc:Nat)(w:World):KeepN gc w w:=fun _ _ _ h _ _=>h
theorem KeepN.trans {gc:Nat}{a b c:World}(h:KeepN gc a b)(k:KeepN gc b c):KeepN gc a c:=fun x T cs hb h1 h2=>k x T cs (h x T cs hb h1 h2) h1 h2
theorem KeepN.of_ext {gc:Nat}{a b:World}(h:Ext a b):KeepN gc a b:=fun _ _ _ hb _ _=>hb.ext h
theorem OwnS.keepN {w w':World}{gc base e size n c:Nat}{A:Option Addr}{xs:List Value}(h:OwnS w base e size A n c xs)(k:KeepN gc w w')(he:e≠129)(hg:∀b,A.map (·.block)=some b->b≠gc):OwnS w' base e size A n c xs:=by
 have hl:=OwnS.len h;rcases OwnS.form h with⟨rfl,rfl,rfl,rfl⟩|⟨g,cur,rfl,hb,hh,h1,h2,h3,h4⟩
 ·exact OwnS.nil _ _ _ _
 ·have hB:=k g e cur hh he (hg g rfl);have:=OwnS.of_blk (size:=size) (n:=n) (c:=c) hB hb h3 h1 h2
  rwa [h4] at this
structure CX (w:World)(base gc:Nat)(hs:List Hin):Prop where
 ex:∃A c,Blk w gc 33 #[.slice A hs.length c]/\OwnS w base 129 5 A hs.length c (flatN hs)
 it:∀h∈hs,h.wf/\OwnP w 0 h.A h.c h.l/\∀s∈h.l,I64 s.1/\I64 s.2
theorem OwnP.ne_gc {w:World}{base gc c:Nat}{A:Option Addr}{l:List Sp}{cs:Array Value}(h:OwnP w base A c l)(hb:Blk w gc 33 cs):∀b,A.map (·.block)=some b->b≠gc:=fun b e=>by
 rcases OwnS.form h with⟨rfl,_⟩|⟨g,cur,rfl,_,hh,_⟩
 ·cases e
 ·injection e with e;subst e;exact Blk.neT hh hb de
def CQ (gc:Nat)(A:Option Addr):Nat->Prop:=fun b=>b=gc\/A.map (·.block)=some b
def RetCX (wE:World)(base gc:Nat)(hs:List Hin)(w w':World):Prop:=CX w' base gc hs/\Ext wE w'/\KeepN gc w w'
def bl (A:Option Addr):List Nat:=(A.map (·.block)).toList
theorem CQ.mem {gc:Nat}{A:Option Addr}:∀i,CQ gc A i->i∈gc::bl A:=fun i e=>by
 rcases e with e|e
 ·simp[e]
 ·simp[bl,e]
theorem bl.mem {A:Option Addr}{i:Nat}(h:i∈bl A):A.map (·.block)=some i:=by
 cases A with
 | none=>simp[bl] at h
 | some a=>simpa[bl,eq_comm] using h
structure WB (w:World)(gc gq gw ga gr:Nat):Prop where
 q:Blk w gq 272 #[.func (Fn.func 160) #[] #[.pointer (some ⟨gc,0,none⟩)]]
 w:Blk w gw 273 #[.func (Fn.func 164) #[] #[.pointer (some ⟨gq,0,none⟩),.pointer (some ⟨gw,0,none⟩),.pointer (some ⟨ga,0,none⟩),.pointer (some ⟨gr,0,none⟩)]]
theorem WB.ext {w w':World}{gc gq gw ga gr:Nat}(h:WB w gc gq gw ga gr)(x:Ext w w'):WB w' gc gq gw ga gr:=⟨h.q.ext x,h.w.ext x⟩
theorem WB.keep {w w':World}{gc gq gw ga gr:Nat}{cs:Array Value}(h:WB w gc gq gw ga gr)(hb:Blk w gc 33 cs)(k:KeepN gc w w'):WB w' gc gq gw ga gr:=⟨k _ _ _ h.q de (Blk.neT h.q hb de),k _ _ _ h.w de (Blk.neT h.w hb de)⟩
theorem one_slS {w:World}{g:Nat}{x:Sp}(hb:Blk w g 81 #[.int .i64 x.1,.int .i64 x.2])(hx:0<=x.1/\x.1<=x.2/\x.2<=255):SL w (some ⟨g,0,none⟩) 1 [x]:=by
 have h:=OwnS.of_blk (base:=0) (size:=2) (n:=1) (c:=1) hb (Nat.zero_le _) rfl (Nat.le_refl _) um;exact SL.of_own (l:=[x]) h (by intro s hs;rw[List.mem_singleton.1 hs];unfold S64 I64;omega)
theorem OwnP.downZ {w:World}{b1 c:Nat}{A:Option Addr}{l:List Sp}(h:OwnP w b1 A c l):OwnP w 0 A c l:=by
 have hl:=OwnS.len h;rcases OwnS.form h with⟨rfl,h1,rfl,h2⟩|⟨g,cur,rfl,hb,hh,h1,h2,h3,h4⟩
 ·have hl0:l=[]:=List.length_eq_zero_iff.1 h1;subst hl0;exact OwnP.nil _ _
 ·have:=OwnS.of_blk (base:=0) (size:=2) (n:=l.length) (c:=c) hh (Nat.zero_le _) h3 h1 h2;unfold OwnP
  rwa [h4] at this
section
variable {P:Program} (w:World)
theorem run_appKeep (base t ty e:Nat)(i:TypeInfo)(z:Value)(ht:P.underlying t=some (.slice e))(hi:P.info? e=some i)(hz:i.zero=some z)
 (hsize:i.size=1) (hby:i.bytes=8) (hzs:z.cells.size=1)
 (A:Option Addr) (n c:Nat) (xs:List Value) (hown:OwnS w base e 1 A n c xs)
 (ad:Addr) (d:Nat) (v:Value) (hr:∀j u,[v][j]? = some u->w.cell? (ad.add j)=some u) (h1:v.oneCell'=true)
 (h63:n+1<=1000000) (hbase:base<=w.heap.size) :
 ∃A' c' w',(Builtin.append_ #[t,t] ty #[.slice A n c,.slice (some ad) 1 d]).run P w=.ok (.slice A' (n+1) c') w'/\OwnS w' base e 1 A' (n+1) c' (xs++[v])/\
  w.grownBy w' (A.map (·.block))/\OwnS w' base e 1 A n c xs/\((A'=A/\c'=c)\/A'.map (·.block)=some w.heap.size):=by
 have hcl:CellsAt w (some ⟨ad.block,ad.off,none⟩) [v]\/True:=.inr trivial;have h63':n+1<=maxLen:=by unfold maxLen;omega
 obtain⟨v',w',hrun,h2,h3,_,h5⟩:=run_append_own_at (P:=P) w base t ty e i z 1 8 ht hi hz hsize hby hzs om _ n xs hown ad 1 d [v] rfl hr (by intro u hu;rw[List.mem_singleton.1 hu];exact h1) h63' om hbase;have hob:(Value.slice A n c).ownBlock=A.map (·.block):=by cases A<;>rfl
 rw[hob] at h3 h5;obtain⟨A',c',rfl⟩:∃A' c',v'=.slice A' (n+1) c':=by
  rcases h2.2 with⟨_,h0⟩|⟨g,cap,cur,rfl,_⟩
  ·omega
  ·exact⟨_,_,rfl⟩
 have hob':(Value.slice A' (n+1) c').ownBlock=A'.map (·.block):=by cases A'<;>rfl
 rw[hob'] at h5;refine⟨A',c',w',hrun,h2,h3,?_⟩;rcases OwnS.form hown with⟨rfl,rfl,rfl,rfl⟩|⟨g,cur,rfl,hb,hh,hnc,hcm,hcs,htk⟩
 ·refine⟨OwnS.nil _ _ _ _,.inr ?_⟩;rcases h5 with h5|h5
  ·rcases OwnS.form (xs:=[]++[v]) h2 with⟨rfl,h0,_⟩|⟨g2,_,rfl,_⟩
   ·omega
   ·cases h5
  ·exact h5
 ·by_cases hroom:n+1<=c
  ·have hr2:=run_append_room (P:=P) w t ty e i ht hi g n c cur hh ad 1 d [v] (by simp[hsize]) hr (by intro u hu;rw[List.mem_singleton.1 hu];exact h1) hroom (by rw[hsize];simp only[List.length_cons,List.length_nil];omega);rw[hrun] at hr2;injection hr2 with e1 e2
   injection e1 with e3 e4 e5
   refine⟨?_,.inl ⟨e3,e5⟩⟩;rw[e2];refine⟨hown.1,.inr ⟨g,c,_,rfl,hb,setRow_heap w g cur _ e _ hh,hnc,hcm,?_,?_⟩⟩
   ·simp only[List.size_toArray,List.length_append,List.length_take,List.length_drop,Array.length_toList,List.length_cons,List.length_nil,hsize];omega
   ·rw[hsize,List.append_assoc,List.take_append_of_le_length (by rw[List.length_take,Array.length_toList];omega),List.take_take,Nat.min_self];exact htk
  ·have holds:∀j u,xs[j]? = some u->w.cell? ((⟨g,0,none⟩:Addr).add j)=some u:=World.ownsRow.cells hown (g:=g) rfl;have hr2:=run_append_grow (P:=P) w t ty e i z ht hi hz ⟨g,0,none⟩ n c xs (by rw[hsize];exact hown.1) holds ad 1 d [v] (by simp[hsize]) hr om om (by rw[hby];exact growslice_fits om om);rw[hrun] at hr2;injection hr2 with e1 e2
   injection e1 with e3 e4 e5
   refine⟨?_,.inr (by rw[e3];rfl)⟩;rw[e2];exact OwnS.ext hown ((Ext.drew w).trans (Ext.alloc _ _))
theorem wpList_appKeep {ops:Array Oper}{rest:List Oper}{o:Oper}{a:Act}{Q:Exit->Act->World->Prop}(hgd:o.guard=none)(s x:Operand)(t:Nat)
 (ho:o.op=.call { callee:=.builtin .append,args:=#[s,x],argTypes:=#[t,t] })
 (base e:Nat) (i:TypeInfo) (z:Value) (ht:P.underlying t=some (.slice e)) (hi:P.info? e=some i) (hz:i.zero=some z)
 (hsize:i.size=1) (hby:i.bytes=8) (hzs:z.cells.size=1)
 (A:Option Addr) (n c:Nat) (xs:List Value) (hs:a.eval s=.slice A n c) (hown:OwnS w base e 1 A n c xs)
 (ad:Addr) (d:Nat) (v:Value) (hx:a.eval x=.slice (some ad) 1 d) (hr:∀j u,[v][j]? = some u->w.cell? (ad.add j)=some u) (h1:v.oneCell'=true)
 (h63:n+1<=1000000) (hbase:base<=w.heap.size)
 (h:∀A' c' w',OwnS w' base e 1 A' (n+1) c' (xs++[v])->w.grownBy w' (A.map (·.block))->OwnS w' base e 1 A n c xs->((A'=A/\c'=c)\/A'.map (·.block)=some w.heap.size)->
  wpList P ops Q rest (a.put o.dst (.slice A' (n+1) c')) w'):wpList P ops Q (o::rest) a w:=
 wpList_plain hgd fun K hK=>by
  obtain⟨A',c',w',hrun,h2,h3,h4,h5⟩:=run_appKeep (P:=P) w base t o.type e i z ht hi hz hsize hby hzs A n c xs hown ad d v hr h1 h63 hbase;unfold Oper.wp execOp;simp only[ho,resolve,invoke,builtin,Sem.run_bind,Sem.run_pure,Result.andThen_ok,List.map_toArray,List.map_cons,List.map_nil,hs,hx,hrun];exact hK _ _ (h A' c' w' h2 h3 h4 h5)
end
end
end Go.Proofs.YtmgpefenkilffaaGreat
