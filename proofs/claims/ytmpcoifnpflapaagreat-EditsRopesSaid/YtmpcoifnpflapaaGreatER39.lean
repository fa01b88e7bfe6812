/- Texts of this proof: Y30 Y31 Y32 Y33 Y35 Y36 P8 K16 P10 Y37 P11 P12 P13 P15. -/
import Derived.Test.YtmpcoifnpflapaaGreatER37
set_option linter.all false
set_option maxRecDepth 100000
set_option maxHeartbeats 16000000
namespace Go.Proofs.YtmpcoifnpflapaaGreat
section
open Go.RowKit
def Oth (w:World)(b:Nat):Prop:=∃cur T,w.heap[b]? = some (.cells cur T (0,0))/\T≠150/\T≠81/\T≠3/\T≠22
theorem Oth.ne {w:World}{b g T:Nat}{cs:Array Value}(h:Oth w b)(hb:Blk w g T cs)(hT:T=150\/T=81\/T=3\/T=22):b≠g:=by
 rintro rfl;obtain⟨cur,T2,h1,h2,h3,h4,h5⟩:=h;unfold Blk at hb;rw[hb] at h1;injection h1 with h1;injection h1 with _ e _
 rcases hT with hT|hT|hT|hT
 ·exact h2 (e▸hT)
 ·exact h3 (e▸hT)
 ·exact h4 (e▸hT)
 ·exact h5 (e▸hT)
theorem BS.far {wr w' w0:World}{p:BP}{gA LA:Option Addr}{gc Lc:Nat}{hs:List Hin}{cs:List Int}{rows:List Kb}{mark:Int}{sts:List Hl}{q:Nat->Prop}
 (h:BS wr w0 p gA gc hs cs rows mark LA Lc sts) (k:KpP q wr w') (hq:∀b,q b->Oth wr b/\w0.heap.size<=b) (hro:RowsOk w' hs cs hs.length rows):BS w' w0 p gA gc hs cs rows mark LA Lc sts:=by
 obtain⟨h1,h2,h3,h4,⟨ms,h5,h6⟩,h7,h8,h9⟩:=h;have hbk:∀{g T:Nat} {ds:Array Value},Blk wr g T ds->(T=150\/T=81\/T=3\/T=22)->Blk w' g T ds:=fun hb hT=>(k.block _ hb.lt (fun hqb=>((hq _ hqb).1.ne hb hT) rfl)).trans hb;have hint:∀b,q b->∀cur,wr.heap[b]?≠some (.cells cur 3 (0,0)):=fun b hb cur hh=>by
  obtain⟨cur2,T,e1,_,_,e4,_⟩:=(hq b hb).1;rw[hh] at e1;injection e1 with e1;injection e1 with _ e2 _
  exact e4 e2.symm
 refine⟨h1.thenP k (fun i hi=>(hq i hi).2),hbk h2 (.inl rfl),hbk h3 (.inr (.inl rfl)),hro,⟨ms,hbk h5 (.inr (.inr (.inl rfl))),h6⟩,
  ⟨h7.map.kp k (fun hqb=>?_),OwnS.kp h7.own k (fun b hb hqb=>?_),fun z hz=>(h7.il z hz).kpT (h7.ty z hz) k hint,fun z hz=>(h7.ty z hz).kp k hint,h7.nM,h7.lt⟩,h8,Nat.le_trans h9 k.size⟩
 ·obtain⟨cur,T,e1,_⟩:=(hq _ hqb).1;exact map_notT h7.map cur e1
 ·obtain⟨cur,T,e1,_,_,_,e5⟩:=(hq _ hqb).1;obtain⟨_,cur2,e6⟩:=OwnS.blt h7.own hb;rw[e6] at e1;injection e1 with e1;injection e1 with _ e2 _
  exact e5 e2.symm
def TyK (w:World)(A:Option Addr):Prop:=∀b,A.map (·.block)=some b->∃cur,w.heap[b]? = some (.cells cur 21 (0,0))
def NoM (w:World)(q:Nat->Prop):Prop:=∀b,q b->∀cur T,w.heap[b]? = some (.cells cur T (0,0))->T≠145/\T≠197/\T≠21/\T≠4
theorem TyK.kp {w w':World}{A:Option Addr}{q:Nat->Prop}(h:TyK w A)(k:KpP q w w')(hq:NoM w q):TyK w' A:=fun b hb=>by
 obtain⟨cur,hh⟩:=h b hb;exact⟨cur,(k.block b (Array.getElem?_eq_some_iff.1 hh).1 (fun hqb=>(hq b hqb cur _ hh).2.2.1 rfl)).trans hh⟩
theorem KL.kpT {w w':World}{A:Option Addr}{c:Nat}{xs:List Int}{q:Nat->Prop}(h:KL w A c xs)(t:TyK w A)(k:KpP q w w')(hq:NoM w q):KL w' A c xs:=by
 refine⟨h.le,h.cap,h.rng,fun hn=>?_⟩;obtain⟨b,o,rfl,hc⟩:=h.at_ hn;obtain⟨cur,hh⟩:=t b rfl;refine⟨b,o,rfl,fun i hi=>?_⟩;rw[World.cell?_of_block (w:=w) (k.block b (World.block_lt_of_cell? _ _ (hc i hi)) (fun hqb=>(hq b hqb cur _ hh).2.2.1 rfl))];exact hc i hi
def flatKr (hs:List Kr):List Value:=hs.map (fun h=>.slice h.A h.l.length h.c)
structure ExM (wr:World)(g xb:Nat)(runes:Bool)(rA:Option Addr)(rn rc:Nat)(first:Int)(nA:Option Addr)(nc:Nat)(nxt:List Kr)(dA:Option Addr)(dc:Nat)(dn:List Bool):Prop where
 blk:Blk wr g 145 #[.bool runes,.slice rA rn rc,.int .i32 first,.slice nA nxt.length nc,.slice dA dn.length dc,.slice none 0 0]
 own:OwnS wr xb 197 1 nA nxt.length nc (flatKr nxt)
 kl:∀z∈nxt,KL wr z.A z.c z.l
 ty:∀z∈nxt,TyK wr z.A
 od:OwnS wr xb 4 1 dA dn.length dc (dn.map Value.bool)
namespace ExM
variable {wr w' w0:World} {g xb rn rc nc dc:Nat} {runes:Bool} {rA nA dA:Option Addr} {first:Int} {nxt:List Kr} {dn:List Bool}
theorem kp {q:Nat->Prop}(h:ExM wr g xb runes rA rn rc first nA nc nxt dA dc dn)(k:KpP q wr w')(hq:NoM wr q):ExM w' g xb runes rA rn rc first nA nc nxt dA dc dn:=by
 refine⟨(k.block _ h.blk.lt (fun hqb=>(hq _ hqb _ _ h.blk).1 rfl)).trans h.blk,OwnS.kp h.own k (fun b hb hqb=>?_),fun z hz=>(h.kl z hz).kpT (h.ty z hz) k hq,fun z hz=>(h.ty z hz).kp k hq,OwnS.kp h.od k (fun b hb hqb=>?_)⟩
 ·obtain⟨_,cur,hh⟩:=OwnS.blt h.own hb;exact(hq b hqb cur _ hh).2.1 rfl
 ·obtain⟨_,cur,hh⟩:=OwnS.blt h.od hb;exact(hq b hqb cur _ hh).2.2.2 rfl
theorem ext (h:ExM wr g xb runes rA rn rc first nA nc nxt dA dc dn)(x:Ext wr w'):ExM w' g xb runes rA rn rc first nA nc nxt dA dc dn:=
 h.kp (q:=fun _=>False) (KpP.of_ext x) (fun _ h=>h.elim)
end ExM
theorem BS.noN {wr w0:World}{p:BP}{gA LA:Option Addr}{gc Lc:Nat}{hs:List Hin}{cs:List Int}{rows:List Kb}{mark:Int}{sts:List Hl}(h:BS wr w0 p gA gc hs cs rows mark LA Lc sts):NoM wr (fun b=>b=p.gb\/b=p.gm\/LA.map (·.block)=some b):=by
 intro b hb cur T hh;have h2:=h.bb;rcases hb with rfl|rfl|hb
 ·unfold Blk at h2;rw[h2] at hh;injection hh with hh;injection hh with _ e _;subst e;decide
 ·exact(map_notT h.nm.map cur hh).elim
 ·obtain⟨_,cur2,e2⟩:=OwnS.blt h.nm.own hb;rw[e2] at hh;injection hh with hh;injection hh with _ e _;subst e;decide
def KX (gM:Nat)(w w':World):Prop:=∃q:Nat->Prop,KpP q w w'/\∀b,q b->∀cur T,w.heap[b]? = some (.cells cur T (0,0))->(T≠145/\T≠197/\T≠21/\T≠4)/\(T=3->b=gM)
namespace KX
variable {gM:Nat} {a b c w w':World}
theorem of_ext (x:Ext w w'):KX gM w w':=⟨fun _=>False,KpP.of_ext x,fun _ h=>h.elim⟩
theorem trans (h:KX gM a b)(k:KX gM b c):KX gM a c:=by
 obtain⟨q1,k1,n1⟩:=h;obtain⟨q2,k2,n2⟩:=k;refine⟨fun i=>q1 i\/(q2 i/\¬q1 i/\i<a.heap.size),KpP.chain (KpP.mono k1 (fun i hi=>.inl hi)) k2 (fun i hi=>?_),?_⟩
 ·by_cases h1:q1 i
  ·exact .inl (.inl h1)
  ·by_cases h2:i<a.heap.size
   ·exact .inl (.inr ⟨hi,h1,h2⟩)
   ·exact .inr om
 ·rintro i (hi|⟨h1,h2,h3⟩) cur T hh
  ·exact n1 i hi cur T hh
  ·exact n2 i h1 cur T ((k1.block i h3 h2).trans hh)
theorem thenNew {q:Nat->Prop}(h:KX gM a b)(k:KpP q b c)(hq:∀i,q i->a.heap.size<=i):KX gM a c:=by
 obtain⟨q1,k1,n1⟩:=h;exact⟨q1,KpP.chain k1 k (fun i hi=>.inr (hq i hi)),n1⟩
theorem lst {A:Option Addr}{cp:Nat}{xs:List Int}(k:KX gM w w')(h:IL w A cp xs)(t:TyI w A)(hn:A.map (·.block)≠some gM):IL w' A cp xs/\TyI w' A:=by
 obtain⟨q,k,n⟩:=k;have hb:∀b,A.map (·.block)=some b->¬q b:=fun b hb hq=>by
  obtain⟨cur,hh⟩:=t b hb;have:=(n b hq cur _ hh).2 rfl;subst this;exact hn hb
 refine⟨IL.kp h k (fun _ b h1 h2=>hb b h1 h2),fun b h1=>?_⟩;obtain⟨cur,hh⟩:=t b h1;exact⟨cur,(k.block b (Array.getElem?_eq_some_iff.1 hh).1 (hb b h1)).trans hh⟩
end KX
theorem ExM.kx {wr w':World}{g xb rn rc nc dc gM:Nat}{runes:Bool}{rA nA dA:Option Addr}{first:Int}{nxt:List Kr}{dn:List Bool}(h:ExM wr g xb runes rA rn rc first nA nc nxt dA dc dn)(k:KX gM wr w'):ExM w' g xb runes rA rn rc first nA nc nxt dA dc dn:=by
 obtain⟨q,k,n⟩:=k;exact h.kp k (fun b hb cur T hh=>(n b hb cur T hh).1)
def RetLS (w0:World)(p:BP)(gA:Option Addr)(gc:Nat)(hs:List Hin)(cs:List Int)(rows:List Kb)(mark:Int)(LA:Option Addr)(Lc:Nat)(sts:List Hl)(l:List Nat)(w:World)(e:Ending)(w':World):Prop:=
 ∃(A:Option Addr) (c:Nat),e=.returned (.slice A l.length c)/\IL w' A c (natsI l)/\TyI w' A/\A.map (·.block)≠some p.gM/\BS w' w0 p gA gc hs cs rows (mark+1) LA Lc sts/\KpP (fun b=>b=p.gb\/b=p.gM) w w'/\KX p.gM w w'
theorem listS_any {w0 w:World}{p:BP}{gA:Option Addr}{gc:Nat}{hs:List Hin}{cs:List Int}{rows:List Kb}{mark:Int}{LA:Option Addr}{Lc:Nat}{sts:List Hl}(h:BS w w0 p gA gc hs cs rows mark LA Lc sts)
 {runes:Bool} {caps:Int} (hG:GOk runes caps (insL hs)) (hP:PL w0 gA gc hs) (hmk:0<=mark/\mark<=1000000000) (F:Option Addr) (fc:Nat) (fs:List Nat) (hF:IL w F fc (natsI fs)) (tF:TyI w F) (nF:F.map (·.block)≠some p.gM) (hfs:∀i∈fs,i<hs.length) :
 Calls Tryz.prog 139 #[.pointer (some ⟨p.gb,0,none⟩),.slice F fs.length fc] w (RetLS w0 p gA gc hs cs rows mark LA Lc sts (stateG (insL hs) fs) w):=by
 obtain⟨ms,h5,h6,h7⟩:=h.bm;refine(list_any w0 w h.ext p.gb p.gM h.lo.2.2.2.1 h.lo.2.1 gA gc hs runes caps hG hP _ mark hmk _ _ ms h.bb h5 h6 h7 F fc fs (fun w' k=>IL.kp hF k (fun _ b hb hq=>?_)) hfs).mono ?_
 ·rcases hq with rfl|rfl
  ·obtain⟨cur,hh⟩:=tF _ hb;have h2:=h.bb;unfold Blk at h2;rw[h2] at hh;injection hh with hh;injection hh with _ h3;revert h3;decide
  ·exact nF hb
 ·rintro e w' ⟨A,c,ms',rfl,h1,h2,h3,h4,h5',h6',h7',k⟩;refine⟨A,c,rfl,h1,h3,fun e=>?_,h.list h4 h5' h6' h7' k,k,⟨_,k,fun b hb cur T hh=>?_⟩⟩
  ·have h8:=h2 _ e;have h9:=h5.lt;omega
  ·rcases hb with rfl|rfl
   ·have h2:=h.bb;unfold Blk at h2;rw[h2] at hh;injection hh with hh;injection hh with _ h3;subst h3
    exact⟨by decide,fun e=>absurd e (show ¬(150=3) by decide)⟩
   ·unfold Blk at h5;rw[h5] at hh;injection hh with hh;injection hh with _ h3;subst h3
    exact⟨by decide,fun _=>rfl⟩
def RetNS (w0:World)(p:BP)(gA:Option Addr)(gc:Nat)(hs:List Hin)(cs:List Int)(rows:List Kb)(mark:Int)(LA:Option Addr)(sts:List Hl)(l:List Nat)(w:World)(e:Ending)(w':World):Prop:=
 ∃(LA':Option Addr) (Lc':Nat) (sts':List Hl),e=.returned (.int .i32 (idx (stsOf sts') l))/\stsOf sts'=grow (stsOf sts) l/\BS w' w0 p gA gc hs cs rows mark LA' Lc' sts'/\KpP (fun b=>b=p.gb\/b=p.gm\/p.base<=b) w w'/\KX p.gM w w'
theorem numS_any {w0 w:World}{p:BP}{gA:Option Addr}{gc:Nat}{hs:List Hin}{cs:List Int}{rows:List Kb}{mark:Int}{LA:Option Addr}{Lc:Nat}{sts:List Hl}(h:BS w w0 p gA gc hs cs rows mark LA Lc sts)
 (hsn:sts.length<=100000) (A:Option Addr) (c:Nat) (l:List Nat) (hl:IL w A c (natsI l)) (hll:l.length<=10000) (hlt:∀i∈l,i<65536) (hty:TyI w A) (hnM:A.map (·.block)≠some p.gM) :
 Calls Tryz.prog 138 #[.pointer (some ⟨p.gb,0,none⟩),.slice A l.length c] w (RetNS w0 p gA gc hs cs rows mark LA sts l w):=by
 refine(number_any w p.base p.gb p.gm p.gM h.bs gA hs.length gc _ _ mark LA Lc sts hsn h.bb h.nm A c l hl hll hlt hty hnM).mono ?_;rintro e w' ⟨LA',Lc',sts',rfl,h1,h2,h3,k⟩;refine⟨LA',Lc',sts',rfl,h1,h.num h2 h3 k,KpP.mono k (fun b hb=>?_),⟨_,k,fun b hb cur T hh=>?_⟩⟩
 ·rcases hb with hb|hb|hb
  ·exact .inl hb
  ·exact .inr (.inl hb)
  ·exact .inr (.inr (OwnS.row h.nm.own b hb))
 ·refine⟨h.noN b hb cur T hh,fun e=>?_⟩;subst e;rcases hb with rfl|rfl|hb
  ·have h2:=h.bb;unfold Blk at h2;rw[h2] at hh;injection hh with hh;injection hh with _ h3;exact absurd h3 de
  ·exact(map_notT h.nm.map cur hh).elim
  ·exact(own_notT h.nm.own de hb cur hh).elim
section
variable (G:List Ins) (cs:List Int)
def midL (L:List St)(l:St)(k:Nat):List St:=growAll ((cs.take k).map (nextG G l)) L
def midR (L:List St)(l:St)(k:Nat):List Int:=upTo (fun j=>idx (midL G cs L l k) (nextG G l (cs.getD j 0))) k cs.length
theorem midL_zero (L:List St)(l:St):midL G cs L l 0=L:=by simp[midL,growAll]
theorem midL_succ (L:List St)(l:St){k:Nat}(hk:k<cs.length):midL G cs L l (k+1)=grow (midL G cs L l k) (nextG G l cs[k]):=by
 unfold midL growAll;rw[List.take_succ_eq_append_getElem hk,List.map_append,List.foldl_append]
 rfl
theorem midL_all (L:List St)(l:St):midL G cs L l cs.length=growAll (cs.map (nextG G l)) L:=by unfold midL;rw[List.take_length]
theorem midL_mem (L:List St)(l:St){j k:Nat}(hj:j<k)(hjc:j<cs.length):nextG G l cs[j]=[]\/nextG G l cs[j]∈midL G cs L l k:=by
 refine growAll_mem _ _ _ (List.mem_map.2 ⟨cs[j],?_,rfl⟩);have h2:j<(cs.take k).length:=by rw[List.length_take];omega
 have h3:(cs.take k)[j]=cs[j]:=List.getElem_take
 rw[<-h3];exact List.getElem_mem h2
theorem midR_len (L:List St)(l:St)(k:Nat):(midR G cs L l k).length=cs.length:=upF_len _ _
theorem midR_zero (L:List St)(l:St):midR G cs L l 0=List.replicate cs.length 0:=upTo_zero _ _
theorem midR_succ (L:List St)(l:St){k:Nat}(hk:k<cs.length):(midR G cs L l k).set k (idx (midL G cs L l (k+1)) (nextG G l cs[k]))=midR G cs L l (k+1):=by
 have e:midR G cs L l k=upTo (fun j=>idx (midL G cs L l (k+1)) (nextG G l (cs.getD j 0))) k cs.length:=by
  unfold midR upTo;refine upF_congr (fun j hj=>?_);by_cases hjk:j<k
  ·rw[if_pos hjk,if_pos hjk];have hg:cs.getD j 0=cs[j]:=by simp[List.getD_eq_getElem?_getD,hj]
   show idx (midL G cs L l k) (nextG G l (cs.getD j 0))=idx (midL G cs L l (k+1)) (nextG G l (cs.getD j 0))
   rw[hg,midL_succ G cs L l hk];obtain⟨t,ht⟩:=grow_pre (midL G cs L l k) (nextG G l cs[k]);rw[ht,idx_pre (midL_mem G cs L l hjk hj)]
  ·rw[if_neg hjk,if_neg hjk]
 rw[e];have h:=upTo_set (fun j=>idx (midL G cs L l (k+1)) (nextG G l (cs.getD j 0))) k cs.length;have hg:cs.getD k 0=cs[k]:=by simp[List.getD_eq_getElem?_getD,hk]
 simp only[hg] at h;exact h
theorem midR_all (L:List St)(l:St):midR G cs L l cs.length=cs.map (fun c=>idx (growAll (cs.map (nextG G l)) L) (nextG G l c)):=by
 unfold midR;rw[upTo_all _ _ _ (Nat.le_refl _),midL_all];unfold upF;refine List.ext_getElem si (fun j h1 h2=>?_);have hj:j<cs.length:=by simpa using h1
 simp[List.getD_eq_getElem?_getD,hj]
theorem grow_mem2 {L:List St}{s t:St}(h:t∈grow L s):t∈L\/t=s:=by
 unfold grow at h
 split at h
 ·exact .inl h
 ·rcases List.mem_append.1 h with h|h
  ·exact .inl h
  ·exact .inr (by simpa using h)
theorem growAll_mem2:∀{ts:List St} {L:List St} {t:St},t∈growAll ts L->t∈L\/t∈ts
 | [],_,_,h=>.inl h
 | s::ts,L,t,h=>by
  rcases growAll_mem2 (ts:=ts) (L:=grow L s) h with h|h
  ·rcases grow_mem2 h with h|h
   ·exact .inl h
   ·exact .inr (by simp[h])
  ·exact .inr (List.mem_cons_of_mem _ h)
structure OutI (RES:Option (List St))(L:List St)(i:Nat)(first:Int)(rows:List (List Int))(dn:List Bool):Prop where
 le:L.length<=1024
 il:i<=L.length
 ex:expl (fun l=>cs.map (nextG G l)) (1030-i) i L=RES
 st0:stateG G [0]=[]\/stateG G [0]∈L
 fst:first=idx L (stateG G [0])
 clo:∀j (hj:j<L.length),j<i->∀c∈cs,nextG G L[j] c=[]\/nextG G L[j] c∈L
 good:GoodL L
 nx:rows=(L.take i).map (fun l=>cs.map (fun c=>idx L (nextG G l c)))
 dn:dn=(L.take i).map (doneG G)
 lt:∀l∈L,(∀q∈l,q<G.length)/\l.length<=G.length
theorem st_lt (fs:List Nat):(∀q∈stateG G fs,q<G.length)/\(stateG G fs).length<=G.length:=⟨fun q hq=>(stateG_in G fs q hq).1,stateG_len fs⟩
theorem OutI.start:OutI G cs (stsG G cs) (grow [] (stateG G [0])) 0 (idx (grow [] (stateG G [0])) (stateG G [0])) [] []:=by
 refine⟨?_,Nat.zero_le _,rfl,grow_mem _ _,rfl,fun j _ h=>absurd h (Nat.not_lt_zero _),grow_good ⟨List.nodup_nil,by simp⟩ _,by simp,by simp,fun l hl=>?_⟩
 ·unfold grow;split<;>simp
 ·rcases grow_mem2 hl with h|h
  ·simp at h
  ·rw[h];exact st_lt G _
variable {G cs} {RES:Option (List St)} {L:List St} {i:Nat} {first:Int} {rows:List (List Int)} {dn:List Bool}
theorem OutI.exs (h:OutI G cs RES L i first rows dn)(hi:i<L.length):expl (fun l=>cs.map (nextG G l)) (1030-(i+1)) (i+1) (growAll (cs.map (nextG G L[i])) L)=RES:=by
 have h1:=h.ex;have h2:=h.le;have e:1030-i=(1030-(i+1))+1:=om;rw[e,expl_step om hi] at h1;exact h1
theorem OutI.over (h:OutI G cs RES L i first rows dn)(hi:i<L.length){k:Nat}(ho:1024<(midL G cs L L[i] k).length):RES=none:=by
 rw[<-h.exs hi];refine expl_over ?_;have e:cs.map (nextG G L[i])=(cs.take k).map (nextG G L[i])++(cs.drop k).map (nextG G L[i]):=by rw[<-List.map_append,List.take_append_drop]
 have e2:growAll (cs.map (nextG G L[i])) L=growAll ((cs.drop k).map (nextG G L[i])) (midL G cs L L[i] k):=by
  rw[e];unfold growAll midL growAll;rw[List.foldl_append]
 obtain⟨t,ht⟩:=growAll_pre ((cs.drop k).map (nextG G L[i])) (midL G cs L L[i] k);rw[e2,ht,List.length_append];omega
theorem OutI.fin (h:OutI G cs RES L i first rows dn)(hi:¬i<L.length):RES=some L:=by
 have h1:=h.ex;have h2:=h.le;have h3:=h.il;have e:1030-i=(1029-i)+1:=om;rw[e,expl_end om om] at h1;exact h1.symm
theorem OutI.step (h:OutI G cs RES L i first rows dn)(hi:i<L.length)(hl:(growAll (cs.map (nextG G L[i])) L).length<=1024) :
 OutI G cs RES (growAll (cs.map (nextG G L[i])) L) (i+1) first (rows++[cs.map (fun c=>idx (growAll (cs.map (nextG G L[i])) L) (nextG G L[i] c))]) (dn++[doneG G L[i]]):=by
 obtain⟨t,ht⟩:=growAll_pre (cs.map (nextG G L[i])) L;have hlen:L.length<=(growAll (cs.map (nextG G L[i])) L).length:=by rw[ht,List.length_append];omega
 have hm:=growAll_mem (cs.map (nextG G L[i])) L;have htk:(growAll (cs.map (nextG G L[i])) L).take (i+1)=L.take i++[L[i]]:=by
  rw[ht,List.take_append_of_le_length om,List.take_succ_eq_append_getElem hi]
 have hgt:∀j (hj:j<L.length),(growAll (cs.map (nextG G L[i])) L)[j]'om=L[j]:=fun j hj=>by simp[ht,hj]
 have hsub:∀s,s=[]\/s∈L->s=[]\/s∈growAll (cs.map (nextG G L[i])) L:=fun s hs=>hs.imp id (fun hs=>by rw[ht];exact List.mem_append_left _ hs);refine⟨hl,om,h.exs hi,hsub _ h.st0,?_,?_,growAll_good _ h.good,?_,?_,fun l hl=>?_⟩
 ·rw[h.fst,ht,idx_pre h.st0]
 ·intro j hj hji c hc;by_cases e:j=i
  ·subst e;rw[hgt j hi];exact hm _ (List.mem_map.2 ⟨c,hc,rfl⟩)
  ·rw[hgt j om];exact hsub _ (h.clo j om om c hc)
 ·rw[htk,List.map_append,h.nx]
  congr 1
  refine List.map_congr_left (fun l hl=>List.map_congr_left (fun c hc=>?_));obtain⟨j,hj,rfl⟩:=List.mem_iff_getElem.1 hl;have hj2:j<i:=by rw[List.length_take] at hj;omega
  have hj3:(L.take i)[j]=L[j]'om:=List.getElem_take;rw[hj3,ht,idx_pre (h.clo j om hj2 c hc)]
 ·rw[htk,List.map_append,h.dn]
  rfl
 ·rcases growAll_mem2 hl with hl|hl
  ·exact h.lt l hl
  ·obtain⟨c,_,rfl⟩:=List.mem_map.1 hl;exact st_lt G _
end
theorem KL.kpU {w w':World}{A:Option Addr}{c:Nat}{xs:List Int}{q:Nat->Prop}(h:KL w A c xs)(t:TyK w A)(k:KpP q w w')(hq:∀b,q b->∀cur,w.heap[b]?≠some (.cells cur 21 (0,0))):KL w' A c xs/\TyK w' A:=by
 refine⟨⟨h.le,h.cap,h.rng,fun hn=>?_⟩,fun b hb=>?_⟩
 ·obtain⟨b,o,rfl,hc⟩:=h.at_ hn;obtain⟨cur,hh⟩:=t b rfl;refine⟨b,o,rfl,fun i hi=>?_⟩;rw[World.cell?_of_block (w:=w) (k.block b (World.block_lt_of_cell? _ _ (hc i hi)) (fun hqb=>hq b hqb cur hh))];exact hc i hi
 ·obtain⟨cur,hh⟩:=t b hb;exact⟨cur,(k.block b (Array.getElem?_eq_some_iff.1 hh).1 (fun hqb=>hq b hqb cur hh)).trans hh⟩
theorem kpp_app {A:Option Addr}{wx w8 w9:World}(g i:Nat)(hg:wx.grownBy w8 (A.map (·.block)))(x:Ext w8 w9)(v:Value):KpP (fun b=>A.map (·.block)=some b\/b=g) wx (w9.setCell ⟨g,i,none⟩ v):=
 KpP.set (x:=⟨g,i,none⟩) (KpP.trans (KpP.mono (KpP.of_grown hg) (fun _ h=>.inl h)) (KpP.of_ext x)) (.inl (.inr rfl)) v
namespace ExM
variable {wx w8 w9:World} {g xb rn rc nc dc:Nat} {runes:Bool} {rA nA dA:Option Addr} {first:Int} {nxt:List Kr} {dn:List Bool}
theorem Y33z1 {P:Prop} (h:P:=by
 have h2:=h.blk;unfold Blk at h2;rw[h2] at hh;injection hh with hh;injection hh with _ h3;revert h3;decide):P:=h
theorem row (h:ExM wx g xb runes rA rn rc first nA nc nxt dA dc dn){gX:Nat}{r:List Int}(hX:Blk wx gX 21 (kInts r))(hr:∀x∈r,I32 x)(hrl:r.length<=maxLen){A8:Option Addr}{c8:Nat}{v:Value}(hv:v=.slice A8 (nxt.length+1) c8)
 (hg:wx.grownBy w8 (nA.map (·.block))) (x9:Ext w8 w9) (ho:OwnS w8 xb 197 1 A8 (nxt.length+1) c8 (flatKr nxt++[.slice (some ⟨gX,0,none⟩) r.length r.length])) :
 ExM (w9.setCell ⟨g,3,none⟩ v) g xb runes rA rn rc first A8 c8 (nxt++[⟨some ⟨gX,0,none⟩,r.length,r⟩]) dA dc dn:=by
 subst hv;have k:=KpP.of_grown hg;have b8:=k.blk h.blk (own_blk h.own h.blk de);have k2:=kpp_app g 3 hg x9 (.slice A8 (nxt.length+1) c8);have hn:∀b,(nA.map (·.block)=some b\/b=g)->∀cur,wx.heap[b]?≠some (.cells cur 21 (0,0)):=fun b hb=>by
  rcases hb with hb|rfl
  ·exact own_notT h.own de hb
  ·intro cur hh;exact Y33z1
 have e1:(nxt++[(⟨some ⟨gX,0,none⟩,r.length,r⟩:Kr)]).length=nxt.length+1:=by simp
 have e2:flatKr (nxt++[(⟨some ⟨gX,0,none⟩,r.length,r⟩:Kr)])=flatKr nxt++[.slice (some ⟨gX,0,none⟩) r.length r.length]:=by simp[flatKr]
 have bX:=(k2.block gX hX.lt (fun hq=>hn gX hq _ hX)).trans hX;refine⟨?_,?_,fun z hz=>?_,fun z hz=>?_,OwnS.kp h.od k2 (fun b hb hq=>?_)⟩
 ·rw[e1];have b:=(b8.ext x9).set 3 (.slice A8 (nxt.length+1) c8)
  simpa using b
 ·rw[e1,e2];exact OwnS.far (OwnS.ext ho x9) (own_blk (OwnS.ext ho x9) (b8.ext x9) de) _
 ·rcases List.mem_append.1 hz with hz|hz
  ·exact((h.kl z hz).kpU (h.ty z hz) k2 hn).1
  ·have e:z=⟨some ⟨gX,0,none⟩,r.length,r⟩:=by simpa using hz
   subst e;exact KL.of_blk bX hr hrl
 ·rcases List.mem_append.1 hz with hz|hz
  ·exact((h.kl z hz).kpU (h.ty z hz) k2 hn).2
  ·have e:z=⟨some ⟨gX,0,none⟩,r.length,r⟩:=by simpa using hz
   subst e;intro b hb;have:gX=b:=by simpa using hb
   subst this;exact⟨_,bX⟩
 ·rcases hq with hq|rfl
  ·obtain⟨_,cur,hh⟩:=OwnS.blt h.od hb;exact own_notT h.own de hq cur hh
  ·exact own_blk h.od h.blk de hb
theorem put (h:ExM wx g xb runes rA rn rc first nA nc nxt dA dc dn){x:Bool}{A8:Option Addr}{c8:Nat}{v:Value}(hv:v=.slice A8 (dn.length+1) c8)
 (hg:wx.grownBy w8 (dA.map (·.block))) (x9:Ext w8 w9) (ho:OwnS w8 xb 4 1 A8 (dn.length+1) c8 (dn.map Value.bool++[.bool x])) :
 ExM (w9.setCell ⟨g,4,none⟩ v) g xb runes rA rn rc first nA nc nxt A8 c8 (dn++[x]):=by
 subst hv;have k:=KpP.of_grown hg;have b8:=k.blk h.blk (own_blk h.od h.blk de);have k2:=kpp_app g 4 hg x9 (.slice A8 (dn.length+1) c8);have hn:∀b,(dA.map (·.block)=some b\/b=g)->∀cur,wx.heap[b]?≠some (.cells cur 21 (0,0)):=fun b hb=>by
  rcases hb with hb|rfl
  ·exact own_notT h.od de hb
  ·intro cur hh;exact Y33z1
 have e1:(dn++[x]).length=dn.length+1:=by simp
 have e2:(dn++[x]).map Value.bool=dn.map Value.bool++[.bool x]:=by simp
 refine⟨?_,OwnS.kp h.own k2 (fun b hb hq=>?_),fun z hz=>((h.kl z hz).kpU (h.ty z hz) k2 hn).1,fun z hz=>((h.kl z hz).kpU (h.ty z hz) k2 hn).2,?_⟩
 ·rw[e1];have b:=(b8.ext x9).set 4 (.slice A8 (dn.length+1) c8)
  simpa using b
 ·rcases hq with hq|rfl
  ·obtain⟨_,cur,hh⟩:=OwnS.blt h.own hb;exact own_notT h.od de hq cur hh
  ·exact own_blk h.own h.blk de hb
 ·rw[e1,e2];exact OwnS.far (OwnS.ext ho x9) (own_blk (OwnS.ext ho x9) (b8.ext x9) de) _
theorem fst (h:ExM wx g xb runes rA rn rc first nA nc nxt dA dc dn)(f:Int):ExM (wx.setCell ⟨g,2,none⟩ (.int .i32 f)) g xb runes rA rn rc f nA nc nxt dA dc dn:=by
 have k2:KpP (·=g) wx (wx.setCell ⟨g,2,none⟩ (.int .i32 f)):=KpP.set (p:=(·=g)) (x:=⟨g,2,none⟩) (KpP.refl _ _) (.inl rfl) _;have hn:∀b,b=g->∀cur,wx.heap[b]?≠some (.cells cur 21 (0,0)):=fun b hb cur hh=>by
  subst hb;exact Y33z1
 refine⟨?_,OwnS.far h.own (own_blk h.own h.blk de) _,fun z hz=>((h.kl z hz).kpU (h.ty z hz) k2 hn).1,fun z hz=>((h.kl z hz).kpU (h.ty z hz) k2 hn).2,OwnS.far h.od (own_blk h.od h.blk de) _⟩;have b:=h.blk.set 2 (.int .i32 f)
 simpa using b
end ExM
def QE (g:Nat)(p:BP)(b:Nat):Prop:=b=g\/b=p.gb\/b=p.gM\/b=p.gm
theorem BS.mac {wr w' w0:World}{p:BP}{gA LA A:Option Addr}{gc Lc xb T n c g:Nat}{hs:List Hin}{cs:List Int}{rows:List Kb}{mark:Int}{sts:List Hl}{xs:List Value}{cells:Array Value}
 (h:BS wr w0 p gA gc hs cs rows mark LA Lc sts) (ow:OwnS wr xb T 1 A n c xs) (hT:T≠150/\T≠81/\T≠3/\T≠22) (hxb:w0.heap.size<=xb) (hb:Blk wr g 145 cells) (hgw:w0.heap.size<=g)
 (k:KpP (fun b=>A.map (·.block)=some b\/b=g) wr w') (hro:RowsOk w' hs cs hs.length rows):BS w' w0 p gA gc hs cs rows mark LA Lc sts:=by
 refine h.far k (fun b hq=>?_) hro;rcases hq with hq|rfl
 ·obtain⟨_,cur,hh⟩:=OwnS.blt ow hq;exact⟨⟨cur,T,hh,hT⟩,Nat.le_trans hxb (OwnS.row ow b hq)⟩
 ·exact⟨⟨_,_,hb,by decide⟩,hgw⟩
def RetEx (w0:World)(g xb:Nat)(runes:Bool)(rA:Option Addr)(rn rc:Nat)(G:List Ins)(cs:List Int)(RES:Option (List St))(e:Ending)(w':World):Prop:=
 (RES=none/\e=.returned (.bool false)/\Ext w0 w')\/
 (∃(R:List St) (first:Int) (nA:Option Addr) (nc:Nat) (nxt:List Kr) (dA:Option Addr) (dc:Nat) (dn:List Bool),RES=some R/\e=.returned (.bool true)/\Ext w0 w'/\ExM w' g xb runes rA rn rc first nA nc nxt dA dc dn/\OutI G cs (some R) R R.length first (rowsOf nxt) dn)
def cellZ (z:Hz):Value:=.slice z.A z.l.length z.c
def zCells (rows:List Hz):Array Value:=(rows.map cellZ).toArray
theorem zCells_set (rows:List Hz)(i:Nat)(z:Hz):(zCells rows).setIfInBounds i (cellZ z)=zCells (rows.set i z):=by simp[zCells]
def nilZ:Hz:=⟨none,0,[]⟩
theorem Blk.cellZ {w:World}{g T:Nat}{rows:List Hz}(h:Blk w g T (zCells rows)){i:Nat}(hi:i<rows.length):w.cell? ⟨g,i,none⟩=some (.slice rows[i].A rows[i].l.length rows[i].c):=by
 rw[h.cell];simp[zCells,hi,Go.Proofs.YtmpcoifnpflapaaGreat.cellZ]
structure BfM (w:World)(base gB:Nat)(rows:List Hz):Prop where
 blk:Blk w gB 22 (zCells rows)
 own:∀z∈rows,OwnI w base 3 z.A z.c z.l
 ap:rows.Pairwise (fun a b=>∀k,a.A.map (·.block)=some k->b.A.map (·.block)≠some k)
namespace BfM
variable {w w' wx wa w8 w9:World} {base gB:Nat} {rows:List Hz}
theorem ext (h:BfM w base gB rows)(x:Ext w w'):BfM w' base gB rows:=⟨h.blk.ext x,fun z hz=>OwnS.ext (h.own z hz) x,h.ap⟩
theorem start {n:Nat}(h:Blk w gB 22 (Array.replicate n (.slice none 0 0)))(base:Nat):BfM w base gB (List.replicate n nilZ):=by
 refine⟨?_,fun z hz=>?_,?_⟩
 ·have e:zCells (List.replicate n nilZ)=Array.replicate n (.slice none 0 0):=by
   simp[zCells,Go.Proofs.YtmpcoifnpflapaaGreat.cellZ,nilZ]
  rw[e];exact h
 ·obtain rfl:=(List.mem_replicate.1 hz).2;exact OwnS.nil _ _ _ _
 ·rw[List.pairwise_iff_getElem];intro i j hi hj hij k hk;rw[List.getElem_replicate] at hk;simp[nilZ] at hk
theorem apart (h:BfM w base gB rows){i j:Nat}(hi:i<rows.length)(hj:j<rows.length)(hij:i≠j){k:Nat}(hk:rows[i].A.map (·.block)=some k):rows[j].A.map (·.block)≠some k:=by
 have hp:=List.pairwise_iff_getElem.1 h.ap;rcases Nat.lt_or_gt_of_ne hij with h1|h1
 ·exact hp i j hi hj h1 k hk
 ·exact fun e=>hp j i hj hi h1 k e hk
theorem kp {q:Nat->Prop}(h:BfM w base gB rows)(k:KpP q w w')(hq:∀b,q b->∀cur T,w.heap[b]? = some (.cells cur T (0,0))->T≠3/\T≠22):BfM w' base gB rows:=by
 refine⟨(k.block _ h.blk.lt (fun hqb=>(hq _ hqb _ _ h.blk).2 rfl)).trans h.blk,fun z hz=>OwnS.kp (h.own z hz) k (fun b hb hqb=>?_),h.ap⟩;obtain⟨_,cur,hh⟩:=OwnS.blt (h.own z hz) hb;exact(hq b hqb cur _ hh).1 rfl
theorem put (h:BfM wx base gB rows){t:Nat}(ht:t<rows.length){x:Int}{A8:Option Addr}{c8:Nat}{v:Value}(hv:v=.slice A8 (rows[t].l++[x]).length c8)(xa:Ext wx wa)
 (ho:OwnI w8 base 3 A8 c8 (rows[t].l++[x])) (hg:wa.grownBy w8 (rows[t].A.map (·.block))) (hat:A8.map (·.block)=rows[t].A.map (·.block)\/A8.map (·.block)=some wa.heap.size) (x9:Ext w8 w9) :
 BfM (w9.setCell ⟨gB,t,none⟩ v) base gB (rows.set t ⟨A8,c8,rows[t].l++[x]⟩):=by
 subst hv;have k:=KpP.of_grown hg;have ha:=h.ext xa;have b8:=k.blk ha.blk (own_blk (ha.own _ (List.getElem_mem ht)) ha.blk de);have b9:=b8.ext x9;have hold:∀j (hj:j<rows.length),j≠t->OwnI (w9.setCell ⟨gB,t,none⟩ (.slice A8 (rows[t].l++[x]).length c8)) base 3 rows[j].A rows[j].c rows[j].l/\(∀b,rows[j].A.map (·.block)=some b->A8.map (·.block)≠some b):=fun j hj hjt=>by
  have o8:=OwnS.kp (ha.own _ (List.getElem_mem hj)) k (fun b hb=>ha.apart hj ht hjt hb);have o9:=OwnS.ext o8 x9;refine⟨OwnS.far o9 (own_blk o9 b9 de) _,fun b hb e=>?_⟩;rcases hat with e2|e2
  ·rw[e2] at e;exact ha.apart hj ht hjt hb e
  ·rw[e2] at e;injection e with e
   have:=(OwnS.blt (ha.own _ (List.getElem_mem hj)) hb).1;omega
 refine⟨?_,fun z hz=>?_,?_⟩
 ·have b:=b9.set t (.slice A8 (rows[t].l++[x]).length c8);have e:=zCells_set rows t ⟨A8,c8,rows[t].l++[x]⟩;unfold Go.Proofs.YtmpcoifnpflapaaGreat.cellZ at e;rw[e] at b;exact b
 ·obtain⟨j,hj,e⟩:=List.getElem_of_mem hz;rw[List.length_set] at hj;rw[List.getElem_set] at e;by_cases hjt:t=j
  ·rw[if_pos hjt] at e;subst e;exact OwnS.far (OwnS.ext ho x9) (own_blk (OwnS.ext ho x9) b9 de) _
  ·rw[if_neg hjt] at e;subst e;exact(hold j hj (fun e=>hjt e.symm)).1
 ·rw[List.pairwise_iff_getElem];intro i j hi hj hij b hb;rw[List.length_set] at hi hj;rw[List.getElem_set] at hb ⊢;by_cases h1:t=i
  ·rw[if_pos h1] at hb;have h2:¬t=j:=om;rw[if_neg h2];exact fun e=>(hold j hj om).2 b e hb
  ·rw[if_neg h1] at hb;by_cases h2:t=j
   ·rw[if_pos h2];exact(hold i hi om).2 b hb
   ·rw[if_neg h2];exact h.apart hi hj om hb
end BfM
def BfN (nx:Nat->Nat->Int)(m i k n:Nat)(rows:List Hz):Prop:=rows.map (·.l)=(befL nx m i k n).map natsI
theorem BfN.start {nx:Nat->Nat->Int}{m n:Nat}:BfN nx m 0 0 n (List.replicate n nilZ):=by
 unfold BfN;rw[befL_start];simp[nilZ,natsI]
theorem BfN.len {nx:Nat->Nat->Int}{m i k n:Nat}{rows:List Hz}(h:BfN nx m i k n rows):rows.length=n:=by
 have:=congrArg List.length h
 simpa[befL_len] using this
theorem BfN.get {nx:Nat->Nat->Int}{m i k n:Nat}{rows:List Hz}(h:BfN nx m i k n rows){t:Nat}(ht:t<rows.length):rows[t].l=natsI (befK nx m i k t):=by
 have h1:(rows.map (·.l))[t]'(by simpa using ht)=((befL nx m i k n).map natsI)[t]'(by rw[List.length_map,befL_len];have:=h.len;omega):=by
  congr 1
 rw[List.getElem_map,List.getElem_map,befL_get] at h1;exact h1
theorem BfN.row {nx:Nat->Nat->Int}{m i n:Nat}{rows:List Hz}(h:BfN nx m i m n rows):BfN nx m (i+1) 0 n rows:=by
 unfold BfN at *;rw[h,befL_row]
theorem BfN.no {nx:Nat->Nat->Int}{m i k n:Nat}{rows:List Hz}(h:BfN nx m i k n rows)(hx:nx i k<0):BfN nx m i (k+1) n rows:=by
 unfold BfN at *;rw[h,befL_no hx]
theorem BfN.yes {nx:Nat->Nat->Int}{m i k n:Nat}{rows:List Hz}(h:BfN nx m i k n rows){t:Nat}(ht:t<rows.length)(hx:nx i k=(t:Int))(A:Option Addr)(c:Nat):BfN nx m i (k+1) n (rows.set t ⟨A,c,rows[t].l++[(i:Int)]⟩):=by
 have hg:=h.get ht;unfold BfN at *
 rw[<-befL_yes hx,List.map_set,List.map_set,h,hg];simp[natsI]
end
section
open Go.RowKit
attribute [local go_sem ↓] Go.wp_at_zero Go.wp_at_succ
structure FP where
 base:Nat
 gX:Nat
 gx:Nat
 gl:Nat
 g:Nat
 gB:Nat
 gO:Nat
def leadV (p:FP):Value:=.func (.func 140) #[] #[.pointer (some ⟨p.gX,0,none⟩),.pointer (some ⟨p.gx,0,none⟩),.pointer (some ⟨p.gl,0,none⟩)]
def maCellsO (m:Ma)(oA:Option Addr)(n:Nat):Array Value:=#[.bool m.runes,.slice m.rA m.rn m.rc,.int .i32 m.first,.slice m.nA m.next.length m.nc,.slice m.dA m.done.length m.dc,.slice oA n n]
structure LeM (wr:World)(p:FP)(m:Ma)(rows:List Hz)(op:List Bool):Prop where
 bX:Blk wr p.gX 42 #[.slice (some ⟨p.gB,0,none⟩) rows.length rows.length]
 bm:Blk wr p.gx 37 #[.pointer (some ⟨p.g,0,none⟩)]
 bl:Blk wr p.gl 153 #[leadV p]
 bg:Blk wr p.g 145 (maCellsO m (some ⟨p.gO,0,none⟩) rows.length)
 bo:Blk wr p.gO 4 (bInts op)
 bf:BfM wr p.base p.gB rows
 ol:op.length=rows.length
theorem LeM.kp {wr w':World}{p:FP}{m:Ma}{rows:List Hz}{op op':List Bool}(h:LeM wr p m rows op)(k:KpP (·=p.gO) wr w')(hb:Blk w' p.gO 4 (bInts op'))(hl:op'.length=rows.length):LeM w' p m rows op':=by
 have hbk:∀{g T:Nat} {ds:Array Value},Blk wr g T ds->T≠4->Blk w' g T ds:=fun hx hT=>(k.block _ hx.lt (fun e=>by
  subst e;have h2:=h.bo;unfold Blk at hx h2;rw[h2] at hx;injection hx with hx;injection hx with _ e _;exact hT e.symm)).trans hx
 refine⟨hbk h.bX de,hbk h.bm de,hbk h.bl de,hbk h.bg de,hb,h.bf.kp k (fun b hb cur T hh=>?_),hl⟩;subst hb;have h2:=h.bo;unfold Blk at h2;rw[h2] at hh;injection hh with hh;injection hh with _ e _
 subst e;exact⟨by decide,by decide⟩
theorem LeM.set {wr:World}{p:FP}{m:Ma}{rows:List Hz}{op:List Bool}(h:LeM wr p m rows op)(s:Nat):LeM (wr.setCell ⟨p.gO,s,none⟩ (.bool true)) p m rows (op.set s true):=by
 refine h.kp (KpP.set (p:=(·=p.gO)) (x:=⟨p.gO,s,none⟩) (KpP.refl _ _) (.inl rfl) _) ?_ (by rw[List.length_set];exact h.ol)
 rw[<-bInts_set];exact h.bo.set s _
def RetLe (p:FP)(m:Ma)(rows:List Hz)(E:Nat->Nat->Prop)(op:List Bool)(t:Nat)(w:World)(e:Ending)(w':World):Prop:=
 ∃op',e=.returned (.tuple #[])/\LeM w' p m rows op'/\Lead E (Mk1 op) (Mk1 op') t/\KpP (·=p.gO) w w'
theorem egFind:∀args w,(callFunc 140 args).run Tryz.prog w=.ok (.enter 140 args) w:=enters_of Tryz.func140 kr rfl
theorem BfM.get {w:World}{base gB:Nat}{rows:List Hz}(h:BfM w base gB rows){t:Nat}(ht:t<rows.length){L:List Nat}(hL:rows[t].l=natsI L){j:Nat}(hj:j<L.length):∃b o,rows[t].A=some ⟨b,o,none⟩/\w.cell? ⟨b,o+j,none⟩=some (.int .i64 (L[j]:Int)):=by
 have ho:=h.own _ (List.getElem_mem ht);rw[hL] at ho;have hj2:j<((natsI L).map (Value.int .i64)).length:=by simp[natsI,hj]
 obtain⟨b,o,hA,hc⟩:=OwnS.cells ho (by intro e;rw[e] at hj2;simp at hj2);refine⟨b,o,hA,?_⟩;have:=hc j hj2
 simpa[natsI] using this
theorem lead_any (p:FP)(m:Ma)(rows:List Hz)(nb:Nat->List Nat)(hN:∀t (ht:t<rows.length),rows[t].l=natsI (nb t)/\(nb t).length<=1000000000/\∀q∈nb t,q<rows.length)(E:Nat->Nat->Prop)(hE:∀t q,t<rows.length->(E q t<->q∈nb t))(hn:rows.length<=1000000) :
 ∀(f:Nat) (w:World) (op:List Bool) (t:Nat),LeM w p m rows op->cntF op<f->t<rows.length->
 Calls Tryz.prog 140 #[.int .i64 t,.pointer (some ⟨p.gX,0,none⟩),.pointer (some ⟨p.gx,0,none⟩),.pointer (some ⟨p.gl,0,none⟩)] w (RetLe p m rows E op t w):=by
 intro f;induction f with
 | zero=>intro w op t _ h;omega
 | succ f ih=>
  intro w op t hM hf ht;have eg:=egFind;obtain⟨hl,hll,hlt'⟩:=hN t ht;have cX:w.cell? ⟨p.gX,0,none⟩=some (.slice (some ⟨p.gB,0,none⟩) rows.length rows.length):=hM.bX.cell 0;have cR:=hM.bf.blk.cellZ ht;have HGET:=fun(wr:World) (op':List Bool) (h:LeM wr p m rows op') (j:Nat) (hj:j<(nb t).length)=>lh (h.bf.get ht hl hj);have hcap:=OwnS.caps (hM.bf.own _ (List.getElem_mem ht));have hEt:=lh (fun q=>hE t q ht);rw[hl] at cR hcap;rw[natsI_len] at cR hcap;generalize rows[t].A=A at *;generalize rows[t].c=c at *;generalize nb t=L at *;have HIH:=lh ih;have htI:(t:Int)<rows.length:=om;have H0:=lh hM;have HL0:=lh (show LeadI E (Mk1 op) (Mk1 op) t (fun q=>q∈L.take 0) from by simpa using LeadI.start E (Mk1 op) t);have HK0:Hid (KpP (·=p.gO) w w):=lh (KpP.refl _ _);have HSN:=lh hlt';clear ih hM hN hE hl hlt';go_enter Tryz.func140,Tryz.ntmps140
  go_upto_region 1 with fail
  go_loopw [12] (fun v wr=>∃(j:Nat) (op':List Bool),v=.int .i64 j/\j<=L.length/\Hid (LeM wr p m rows op')/\Hid (LeadI E (Mk1 op) (Mk1 op') t (fun q=>q∈L.take j))/\Hid (KpP (·=p.gO) w wr)/\cntF op'<=cntF op) (fun v _=>L.length-(intOf v).toNat)
  case atStart=>exact⟨0,op,rfl,om,H0,HL0,HK0,Nat.le_refl _⟩
  case round=>
   obtain⟨j,op',rfl,hj,HM,HL,HK,hcf⟩:=hrel;clear H0 HL0 HK0;by_cases hlt:j<L.length
   ·have hjI:(j:Int)<L.length:=om;obtain⟨b,o,hA,cj⟩:=(HGET wr op' HM.out j hlt).out;have hA':=hA;subst hA';have hsn:=HSN.out _ (List.getElem_mem hlt);have HES:Hid (E L[j] t):=lh ((hEt.out _).2 (List.getElem_mem hlt));have HTK:=fun q=>lh (show q∈L.take (j+1)<->q∈L.take j\/q=L[j] by rw[List.take_succ_eq_append_getElem hlt,List.mem_append,List.mem_singleton]);generalize L[j]=s at *;have hsI:(s:Int)<rows.length:=om;have hol:=HM.out.ol;have hso:s<op'.length:=om;have cm:wr.cell? ⟨p.gx,0,none⟩=some (.pointer (some ⟨p.g,0,none⟩)):=HM.out.bm.cell 0;have cg:wr.cell? ⟨p.g,5,none⟩=some (.slice (some ⟨p.gO,0,none⟩) rows.length rows.length):=HM.out.bg.cell 5;have cs:wr.cell? ⟨p.gO,s,none⟩=some (.bool op'[s]):=by rw[HM.out.bo.cell];simp[bInts,hso]
    have cl:wr.cell? ⟨p.gl,0,none⟩=some (leadV p):=HM.out.bl.cell 0;unfold leadV at cl;by_cases hb:op'[s]=true
    ·rw[hb] at cs;have HLN:=lh (show LeadI E (Mk1 op) (Mk1 op') t (fun q=>q∈L.take (j+1)) by
      have h:=HL.out.old (s:=s) (by unfold Mk1;rw[List.getD_eq_getElem?_getD,List.getElem?_eq_getElem hso,hb];rfl);exact⟨h.sub,fun q hq=>h.all q ((HTK q).out.1 hq),h.new⟩)
     clear hb
     go_wp2_with fail
     go_roundw
     case rel=>exact⟨j+1,op',by go_num,om,HM,HLN,HK,hcf⟩
     case measure=>simp[intOf];omega
    ·have hb2:op'[s]=false:=by simpa using hb
     rw[hb2] at cs;have HCS:=lh (cntF_set hso hb2);have fs:=HM.out.bo.frz s;clear hb hb2
     go_upto_region 5 with fail
     have HM2:=lh (HM.out.set s);have HK2:Hid (KpP (·=p.gO) w (wr.setCell ⟨p.gO,s,none⟩ (.bool true))):=lh (KpP.set (p:=(·=p.gO)) (x:=⟨p.gO,s,none⟩) HK.out (.inl rfl) _);generalize wr.setCell ⟨p.gO,s,none⟩ (.bool true)=w2 at *;have cl2:w2.cell? ⟨p.gl,0,none⟩=some (leadV p):=HM2.out.bl.cell 0;unfold leadV at cl2;clear cm cg cs fs cl;have hcf2:cntF (op'.set s true)<f:=by have:=HCS.out;omega
     go_upto_region 6 with(go_at_fn 140;refine(HIH.out w2 _ s HM2.out hcf2 om).mono ?_;rintro e w7 ⟨op7,rfl,h7,k7,kk7⟩)
     have HM7:=lh h7;have HLN:=lh (show LeadI E (Mk1 op) (Mk1 op7) t (fun q=>q∈L.take (j+1)) by
      have k8:Lead E (fun x=>Mk1 op' x\/x=s) (Mk1 op7) s:=⟨fun x hx=>k7.sub x ((Mk1.set hso x).2 hx),k7.all,fun x hx hn=>k7.new x hx (fun h=>hn ((Mk1.set hso x).1 h))⟩;have h:=HL.out.step HES.out k8;exact⟨h.sub,fun q hq=>h.all q ((HTK q).out.1 hq),h.new⟩)
     have HK7:=lh (KpP.trans HK2.out kk7);have hcf7:cntF op7<=cntF op:=by
      have h1:=cntF_mono (op:=op'.set s true) (op':=op7) (by rw[List.length_set,hol,h7.ol]) k7.sub;have:=HCS.out;omega
     clear h7 k7 kk7 HM2 HK2 cl2
     go_wp2_with fail
     go_roundw
     case rel=>exact⟨j+1,op7,by go_num,om,HM7,HLN,HK7,hcf7⟩
     case measure=>simp[intOf];omega
   ·have hjI:¬(j:Int)<L.length:=om;obtain rfl:j=L.length:=om
    go_wp2_with fail
    refine bodyPost_ret (v:=.tuple #[]) (by simp[results,Tryz.results140,go_sem]) rfl ⟨op',rfl,HM.out,HL.out.done (fun q hq=>?_),HK.out⟩;have:=(hEt.out q).1 hq
    simpa using this
end
section
open Go.RowKit
structure MachOf (G:List Ins)(cs:List Int)(R:List St)(m:Ma):Prop where
 good:GoodL R
 len:R.length<=1024
 st0:stateG G [0]=[]\/stateG G [0]∈R
 clo:∀l∈R,∀c∈cs,nextG G l c=[]\/nextG G l c∈R
 first:m.first=idx R (stateG G [0])
 nx:rowsOf m.next=R.map (fun l=>cs.map (fun c=>idx R (nextG G l c)))
 dn:m.done=R.map (doneG G)
 ol:m.opn.length=R.length
def ClOf (G:List Ins)(cs:List Int)(cf:Int->Nat)(x:Int):Prop:=∃h:cf x<cs.length,∀l,nextG G l x=nextG G l cs[cf x]
section
variable {G:List Ins} {cs:List Int} {R:List St} {m:Ma} {cf:Int->Nat}
end
section
variable (G:List Ins) (cs:List Int)
structure RfI (RES:Option (List St))(L:List St)(i:Nat):Prop where
 il:i<=L.length/\i<=1024
 ex:expl (fun l=>cs.map (nextG G l)) (1030-i) i L=RES
 st0:stateG G [0]=[]\/stateG G [0]∈L
 clo:∀j (hj:j<L.length),j<i->∀c∈cs,nextG G L[j] c=[]\/nextG G L[j] c∈L
 good:GoodL L
 lt:∀l∈L,(∀q∈l,q<G.length)/\l.length<=G.length
 len:L.length<=1025+cs.length
variable {G cs} {RES:Option (List St)} {L:List St} {i:Nat}
end
def OpnL (G:List Ins)(cs:List Int)(R:List St)(op:List Bool):Prop:=op.length=R.length/\∀j (hj:j<R.length),op.getD j false=true<->Opn (nextG G) cs (doneG G) R[j]
structure SmallG (G:List Ins):Prop where
 sets:(setsOf G).length<=1024
 flat:(setsOf G).flatten.length<=10000
 ends:∀top,(endsT top (setsOf G)).length<=1000
section
variable {runes:Bool} {caps:Int} {G:List Ins}
theorem classes_len (hS:SmallG G)(top:Int):(classes (setsOf G) top).length<=1000:=by
 rw[ClOk.len_keys];exact Nat.le_trans (keysU_len _ _ _) (hS.ends _)
theorem kept_len (hS:SmallG G):(keptG runes G).length<=1000:=Nat.le_trans (List.length_filter_le _ _) (classes_len hS _)
theorem class_len (hS:SmallG G){top:Int}{c:List Sp}(hc:c∈classes (setsOf G) top):c.length<=1000:=by
 obtain⟨i,hi,rfl⟩:=List.mem_iff_getElem.1 hc;exact Nat.le_trans (ClOk.clen hi) (hS.ends _)
theorem kept_cl (hS:SmallG G){c:List Sp}(hc:c∈keptG runes G):c.length<=1000:=class_len hS (kept_mem hc).1
theorem kept_good (hG:GOk runes caps G){c:List Sp}(hc:c∈keptG runes G):∀s∈c,0<=s.1/\s.1<=1114111:=fun s hs=>by
 obtain⟨i,hi,rfl⟩:=List.mem_iff_getElem.1 (kept_mem hc).1;have h1:=okL_goodc (hG.clOk.cok hi) s hs;unfold goodS at h1;omega
theorem symV_a (runes:Bool):symV runes 97=true:=by cases runes<;>decide
theorem kept_strs (hG:GOk runes caps G):strA (keptG runes G) (keptG runes G).length≠[]:=by
 obtain⟨k,hk,hh⟩:=sym_class hG (symV_a runes);obtain⟨s,hs,_⟩:=has_iff.1 hh;intro e;have h1:=strA_strs (keptG runes G) _ (Nat.le_refl _);rw[e,List.take_length] at h1;have h2:(s.1,k)∈strs (keptG runes G):=strs_mem.2 ⟨hk,s,hs,rfl⟩
 rw[<-h1] at h2;simp at h2
theorem symsP_len:(symsP runes G).length=(keptG runes G).length:=by simp[symsP]
def ClsG (runes:Bool)(G:List Ins)(strt:List Sp):Prop:=∀x,symV runes x=true->∃k,∃hk:k<(symsP runes G).length,ClsAt strt x k/\∀l,nextG G l x=nextG G l (symsP runes G)[k]
theorem clsG_of (hG:GOk runes caps G){m:List Sp}(hp:(strA (keptG runes G) (keptG runes G).length).Perm m)(hs:m.Pairwise (fun a b=>a.1<=b.1)):ClsG runes G m:=by
 intro x hx;obtain⟨k,hk,hh⟩:=sym_class hG hx;have hle:∀c∈keptG runes G,∀s∈c,s.1<=s.2:=fun c hc=>class_le hG (kept_mem hc).1;refine⟨k,by rw[symsP_len];exact hk,cls_at hle (fun x k k' hk hk' h1 h2=>kept_apart hG x k k' hk hk' h1 h2) hp hs (fun p hp2=>strA_nn _ p (hp.mem_iff.2 hp2)) hk hh,fun l=>?_⟩;have hm:=kept_mem (List.getElem_mem hk);have e:(symsP runes G)[k]'(by rw[symsP_len];exact hk)=smpP runes (keptG runes G)[k]:=by unfold symsP;rw[List.getElem_map]
 rw[e];exact class_alike hG hm.1 hh (endsL_has (hle _ (List.getElem_mem hk)) (smpP_in hm.2).1) l
def nxN (rows:List (List Int))(p k:Nat):Int:=(rows.getD p []).getD k 0
def EdgN (n m:Nat)(rows:List (List Int))(p t:Nat):Prop:=p<n/\StpI (nxN rows) m p t
def OpN (n m:Nat)(rows:List (List Int))(dn op:List Bool):Prop:=op.length=n/\∀j,Mk1 op j<->∃t,(t<n/\dn.getD t false=true)/\Rch (EdgN n m rows) j t
variable {cs:List Int} {R:List St} {first:Int} {rows:List (List Int)} {dn:List Bool}
theorem OutI.rows_len (h:OutI G cs (some R) R R.length first rows dn):rows.length=R.length/\dn.length=R.length/\∀r∈rows,r.length=cs.length/\∀x∈r,-1<=x/\x<R.length:=by
 refine⟨by rw[h.nx];simp,by rw[h.dn];simp,fun r hr=>?_⟩;rw[h.nx,List.take_length] at hr;obtain⟨l,hl,rfl⟩:=List.mem_map.1 hr;refine⟨by simp,fun x hx=>?_⟩;obtain⟨c,hc,rfl⟩:=List.mem_map.1 hx;obtain⟨j,hj,rfl⟩:=List.mem_iff_getElem.1 hl;rcases h.clo j hj hj c hc with h1|h1
 ·rw[h1];unfold idx;rw[if_pos rfl];omega
 ·have hn:nextG G R[j] c≠[]:=fun e=>h.good.2 (e▸h1);have:=idx_bd h1 hn;omega
theorem OutI.clo2 (h:OutI G cs (some R) R R.length first rows dn):∀l∈R,∀c∈cs,nextG G l c=[]\/nextG G l c∈R:=fun l hl c hc=>by
 obtain⟨j,hj,rfl⟩:=List.mem_iff_getElem.1 hl;exact h.clo j hj hj c hc
theorem OutI.mach (h:OutI G cs (some R) R R.length first rows dn){m:Ma}(h1:m.first=first)(h2:rowsOf m.next=rows)(h3:m.done=dn)(h4:m.opn.length=R.length):MachOf G cs R m:=
 ⟨h.good,h.le,h.st0,h.clo2,by rw[h1];exact h.fst,by rw[h2,h.nx,List.take_length],by rw[h3,h.dn,List.take_length],h4⟩
theorem OutI.opn (h:OutI G cs (some R) R R.length first rows dn){op:List Bool}(ho:OpN R.length cs.length rows dn op):OpnL G cs R op:=by
 refine⟨ho.1,fun j hj=>?_⟩;have h1:=opn_idx (f:=nextG G) (cs:=cs) (dn:=doneG G) h.good h.clo2 (nx:=nxN rows) (fun p hp k hk=>?_) (E:=EdgN R.length cs.length rows) (fun p t=>Iff.rfl) hj
 ·rw[<-h1];refine(ho.2 j).trans ⟨?_,?_⟩
  ·rintro⟨t,⟨ht,hd⟩,hr⟩;refine⟨t,⟨ht,?_⟩,hr⟩;rw[h.dn,List.take_length,List.getD_eq_getElem?_getD,List.getElem?_map,List.getElem?_eq_getElem ht] at hd
   simpa using hd
  ·rintro⟨t,⟨ht,hd⟩,hr⟩;refine⟨t,⟨ht,?_⟩,hr⟩;rw[h.dn,List.take_length,List.getD_eq_getElem?_getD,List.getElem?_map,List.getElem?_eq_getElem ht]
   simpa using hd
 ·unfold nxN;rw[h.nx,List.take_length];simp[List.getD_eq_getElem?_getD,hp,hk]
structure NewOk (w:World)(runes:Bool)(caps:Int)(G:List Ins)(g:Nat)(m:Ma)(strt:List Sp)(R:List St):Prop where
 ok:GOk runes caps G
 at_:MachAt w g m (symsP runes G).length strt
 run:m.runes=runes
 sts:stsG G (symsP runes G)=some R
 mo:MachOf G (symsP runes G) R m
 opn:OpnL G (symsP runes G) R m.opn
 cls:ClsG runes G strt
theorem NewOk.ext {w w':World}{g:Nat}{m:Ma}{strt:List Sp}(h:NewOk w runes caps G g m strt R)(x:Ext w w'):NewOk w' runes caps G g m strt R:=⟨h.ok,h.at_.ext x,h.run,h.sts,h.mo,h.opn,h.cls⟩
open Classical in
noncomputable def clsF (runes:Bool) (G:List Ins) (strt:List Sp) (x:Int):Nat:=
 if h:∃k,∃hk:k<(symsP runes G).length,ClsAt strt x k/\∀l,nextG G l x=nextG G l (symsP runes G)[k] then Classical.choose h else 0
theorem clsF_ok {strt:List Sp}(h:ClsG runes G strt){x:Int}(hx:symV runes x=true):ClOf G (symsP runes G) (clsF runes G strt) x/\ClsAt strt x (clsF runes G strt x):=by
 have h1:=h x hx;have e:clsF runes G strt x=Classical.choose h1:=by unfold clsF;rw[dif_pos h1]
 obtain⟨hk,h2,h3⟩:=Classical.choose_spec h1;unfold ClOf;rw[e];exact⟨⟨hk,h3⟩,h2⟩
theorem clsF_syms {strt:List Sp}(h:ClsG runes G strt){ts:List Int}(ht:ts.all (symV runes)=true):SymsOk strt (symsP runes G).length (clsF runes G strt) ts/\∀x∈ts,ClOf G (symsP runes G) (clsF runes G strt) x:=by
 have h1:=fun x hx=>clsF_ok h (List.all_eq_true.1 ht x hx);exact⟨fun x hx=>⟨(h1 x hx).2,(h1 x hx).1.1⟩,fun x hx=>(h1 x hx).1⟩
end
def RetMN (runes:Bool)(caps:Int)(G:List Ins)(w:World)(e:Ending)(w':World):Prop:=
 Ext w w'/\((newE runes caps G≠0/\e=.returned (.tuple #[.pointer none,.int .i64 (newE runes caps G)]))\/
  (newE runes caps G=0/\∃(g:Nat) (m:Ma) (strt:List Sp) (R:List St),e=.returned (.tuple #[.pointer (some ⟨g,0,none⟩),.int .i64 0])/\w.heap.size<=g/\NewOk w' runes caps G g m strt R))
end
section
open Go.RowKit
attribute [local go_sem ↓] Go.wp_at_zero Go.wp_at_succ
theorem FindI.iff {E:Nat->Nat->Prop}{M T T':Nat->Prop}(h:FindI E M T)(ht:∀x,T x<->T' x):FindI E M T':=
 ⟨fun x hx=>by obtain⟨t,h1,h2⟩:=h.why x hx;exact⟨t,(ht t).1 h1,h2⟩,h.clo,fun t hT p hp=>h.all t ((ht t).2 hT) p hp⟩
theorem FindI.start {E:Nat->Nat->Prop}{n:Nat}{T:Nat->Prop}(hT:∀x,¬T x):FindI E (Mk1 (List.replicate n false)) T:=by
 have h0:∀x,¬Mk1 (List.replicate n false) x:=fun x h=>by
  unfold Mk1 at h;rw[List.getD_eq_getElem?_getD,List.getElem?_replicate] at h
  split at h<;>simp at h
 exact⟨fun x hx=>absurd hx (h0 x),fun x hx=>absurd hx (h0 x),fun t ht=>absurd ht (hT t)⟩
theorem mkRowsZ (n:Nat)(h:n<=1000000)(W:World):(Instr.makeSlice 42 (.int .i64 (n:Int)) (.int .i64 (n:Int))).run Tryz.prog W=.ok (.slice (some ⟨W.heap.size,0,none⟩) n n) (W.alloc (.cells (Array.replicate n (.slice none 0 0)) 22)):=by
 obtain⟨i0,hi0,hz0,hz1,hz2⟩:=info_parts infoSI;have:=run_make (P:=Tryz.prog) W 42 22 i0 (.slice none 0 0) Tryz.underlying42 hi0 hz0 .i64 .i64 n n om (Int.le_refl _) (by rw[hz2];omega) om;rw[this,hz1];simp only[Int.toNat_natCast,Value.cells];rw[madeCells_one]
 simp
def FndW (wr:World)(gX gx g gB n:Nat):Prop:=Blk wr gX 42 #[.slice (some ⟨gB,0,none⟩) n n]/\Blk wr gx 37 #[.pointer (some ⟨g,0,none⟩)]
def RetFi (g:Nat)(m:Ma)(nc:Nat)(w:World)(e:Ending)(w':World):Prop:=
 ∃(gO:Nat) (op:List Bool),e=.returned (.tuple #[])/\MaAt w' g { m with oA:=some ⟨gO,0,none⟩,oc:=m.next.length,opn:=op }/\OpN m.next.length nc (rowsOf m.next) m.done op/\KpP (·=g) w w'
theorem find_any2 (w:World)(g:Nat)(m:Ma)(nc:Nat)(hM:MaAt w g m)(h0:m.oA=none/\m.oc=0/\m.opn=[])(hrow:∀h∈m.next,h.l.length=nc/\∀x∈h.l,-1<=x/\x<m.next.length)(hdl:m.done.length=m.next.length)(hn:m.next.length<=1024)(hnc:nc<=10000)
 (hkg:∀w',KpP (·=g) w w'->NXL w' m.nA m.nc m.next/\IB w' m.dA m.dc m.done) :
 Calls Tryz.prog 74 #[.pointer (some ⟨g,0,none⟩),.int .i64 nc] w (RetFi g m nc w):=by
 obtain⟨ho1,ho2,ho3⟩:=h0;have hgw:=hM.blk.lt;have HM:=lh hM;have HROW:=lh hrow;have HDL:=lh hdl;have HKG:=fun(w':World) (k:KpP (·=g) w w')=>lh (hkg w' k);have hnl:=hM.nx.len;have hdn:=hM.dn.len;rw[hdl] at hdn;have hmk:=mkRowsZ m.next.length om;obtain⟨n,hnE⟩:∃n,Hid (m.next.length=n):=⟨_,lh rfl⟩;have E1:=Ext.alloc w (.cells #[.pointer (some ⟨g,0,none⟩)] 37);have B1:=Blk.new w 37 #[.pointer (some ⟨g,0,none⟩)];clear hM hrow hdl hkg;go_enter Tryz.func74,Tryz.ntmps74
 go_upto_region 1 with fail
 obtain⟨gx,hgx⟩:∃gx,gx=w.heap.size:=⟨_,rfl⟩
 rw[<-hgx] at B1 ⊢;have HGX:=lh hgx;have hgne:g≠gx:=om;clear hgx;generalize w.alloc (.cells #[.pointer (some ⟨g,0,none⟩)] 37)=w1 at *;have c1:w1.cell? ⟨gx,0,none⟩=some (.pointer (some ⟨g,0,none⟩)):=B1.cell 0;have HM1:=lh (HM.out.ext E1);have c3:w1.cell? ⟨g,3,none⟩=some (.slice m.nA m.next.length m.nc):=HM1.out.blk.cell 3;rw[hnE.out] at c3 hmk hn hnl hdn;have E2:=Ext.alloc w1 (.cells (Array.replicate n (.slice none 0 0)) 22);have B2:=Blk.new w1 22 (Array.replicate n (.slice none 0 0))
 go_upto_region 2 with fail
 obtain⟨gB,hgB⟩:∃gB,gB=w1.heap.size:=⟨_,rfl⟩
 rw[<-hgB] at B2 ⊢;have hsz2:(w1.alloc (.cells (Array.replicate n (.slice none 0 0)) 22)).heap.size=gB+1:=by rw[World.size_alloc,hgB]
 have hgBw:w.heap.size<=gB:=by have:=E1.size;omega
 have HGB:=lh hgB;clear hgB;generalize w1.alloc (.cells (Array.replicate n (.slice none 0 0)) 22)=w2 at *;have E3:=Ext.alloc w2 (.cells #[.slice (some ⟨gB,0,none⟩) n n] 42);have B3:=Blk.new w2 42 #[.slice (some ⟨gB,0,none⟩) n n];rw[hsz2] at B3;generalize w2.alloc (.cells #[.slice (some ⟨gB,0,none⟩) n n] 42)=w3 at *;obtain⟨gX,hgX⟩:∃gX,gX=gB+1:=⟨_,rfl⟩
 rw[<-hgX] at B3 ⊢;have E13:=E2.trans E3;have HM3:=lh (HM1.out.ext E13);have HX3:=lh B3;have Hx3:=lh (B1.ext E13);have HBF0:Hid (BfM w3 w.heap.size gB (List.replicate n nilZ)):=lh (BfM.start (B2.ext E3) _);obtain⟨NX,hNX⟩:∃NX,Hid (NX=nxN (rowsOf m.next)):=⟨_,lh rfl⟩;have HBN0:Hid (BfN NX nc 0 0 n (List.replicate n nilZ)):=lh BfN.start;have HE3:Hid (Ext w w3):=lh (E1.trans E13);have hgXx:gX≠gB:=om;clear E1 E2 E3 E13 B1 B2 B3 HM1 c1 c3 hsz2 hgX;have c1:w3.cell? ⟨gx,0,none⟩=some (.pointer (some ⟨g,0,none⟩)):=Hx3.out.cell 0;have c3:w3.cell? ⟨g,3,none⟩=some (.slice m.nA m.next.length m.nc):=HM3.out.blk.cell 3;rw[hnE.out] at c3
 go_upto_region 3 with fail
 clear c1 c3;have HW3:Hid (FndW w3 gX gx g gB n):=lh ⟨HX3.out,Hx3.out⟩
 go_loopw [23] (fun v wr=>∃(i:Nat) (rows:List Hz),v=.int .i64 i/\i<=n/\Hid (BfM wr w.heap.size gB rows)/\Hid (BfN NX nc i 0 n rows)/\Hid (FndW wr gX gx g gB n)/\Hid (Ext w wr)) (fun v _=>n-(intOf v).toNat)
 case atStart=>exact⟨0,_,rfl,om,HBF0,HBN0,HW3,HE3⟩
 case round=>
  obtain⟨i,rows,rfl,hi,HBF,HBN,HW,X1⟩:=hrel;clear HBF0 HBN0 HW3 HX3 Hx3 HE3;obtain⟨wm,hwm⟩:∃x,x=wr:=⟨_,rfl⟩;subst hwm;by_cases hlt:i<n
  ·have hiI:(i:Int)<n:=om;have hin:i<m.next.length:=by rw[hnE.out];exact hlt
   obtain⟨nb,no,hnA,cr,hkl⟩:=(HM.out.nx.ext X1.out).get hin;have hrr:=HROW.out _ (List.getElem_mem hin);have HNXI:=lh (show ∀k,NX i k=(m.next[i]).l.getD k 0 from fun k=>by rw[hNX.out];unfold nxN rowsOf;simp[List.getD_eq_getElem?_getD,hin]);have hin0:=hin;obtain⟨r,hr0⟩:∃r,Hid (m.next[i]=r):=⟨_,lh rfl⟩;rw[hr0.out] at cr hkl hrr HNXI;obtain⟨rA,rc,rl⟩:=r
   simp only at cr hkl hrr HNXI
   obtain⟨hrl,hrx⟩:=hrr;rw[hrl] at cr;have HKL:=lh hkl;have HRX:=lh hrx;have hklen:=hkl.len;rw[hrl] at hklen;clear hkl hrx
   go_upto_region 6 with fail
   have HKL0:=lh ((HM.out.nx.il _ (List.getElem_mem hin0)));rw[hr0.out] at HKL0
   simp only at HKL0
   go_loopw [29] (fun v wi=>∃(k:Nat) (rows:List Hz),v=.int .i64 k/\k<=nc/\Hid (BfM wi w.heap.size gB rows)/\Hid (BfN NX nc i k n rows)/\Hid (FndW wi gX gx g gB n)/\Hid (Ext w wi)) (fun v _=>nc-(intOf v).toNat)
   case atStart=>exact⟨0,rows,rfl,om,HBF,HBN,HW,X1⟩
   case round=>
    obtain⟨k,rows2,rfl,hk,HBF2,HBN2,HW2,X2⟩:=hrel;clear HBF HBN HW X1;by_cases hlt2:k<nc
    ·have hkI:(k:Int)<nc:=om;have hkr:k<rl.length:=om;obtain⟨kb,ko,hrA,ck⟩:=(HKL0.out.ext X2.out).get hkr;have hrA':=hrA;subst hrA';have hxr:=HRX.out _ (List.getElem_mem hkr);have HXV:=lh (show NX i k=rl[k] by rw[HNXI.out];simp[List.getD_eq_getElem?_getD,hkr]);generalize rl[k]=x at *;by_cases hx:x = -1
     ·subst hx;have HBN3:=lh (HBN2.out.no (by rw[HXV.out];omega))
      go_wp2_with fail
      go_roundw
      case rel=>exact⟨k+1,rows2,by go_num,om,HBF2,HBN3,HW2,X2⟩
      case measure=>simp[intOf];omega
     ·have hxf:(x == -1)=false:=by simp[hx]
      go_upto_region 10 with fail
      obtain⟨t,rfl⟩:∃t:Nat,x=t:=⟨x.toNat,om⟩;have htn:t<n:=by have:=hxr.2;rw[hnE.out] at this;omega
      have htI:(t:Int)<n:=om;have hrl2:=HBN2.out.len;have htr:t<rows2.length:=om;have hlen2:rows2[t].l.length<=20000000:=by
       rw[HBN2.out.get htr,natsI_len];have h1:=befK_len (nx:=NX) (m:=nc) (i:=i) (k:=k) (t:=t);have h2:i*nc<=1024*10000:=Nat.mul_le_mul om hnc;omega
      have crow:=HBF2.out.blk.cellZ htr;have hown:=HBF2.out.own _ (List.getElem_mem htr);have HBNY:=fun A c=>lh (HBN2.out.yes htr HXV.out A c);have HBFP:=fun(wa w8 w9:World) (xa:Ext wr wa) (A8:Option Addr) (c8:Nat) (v:Value) (hv:v=.slice A8 (rows2[t].l++[(i:Int)]).length c8) (ho:OwnI w8 w.heap.size 3 A8 c8 (rows2[t].l++[(i:Int)])) (hg:wa.grownBy w8 (rows2[t].A.map (·.block))) (hat:A8.map (·.block)=rows2[t].A.map (·.block)\/A8.map (·.block)=some wa.heap.size) (x9:Ext w8 w9)=>lh (HBF2.out.put htr hv xa ho hg hat x9);obtain⟨z,hz⟩:∃z,Hid (rows2[t]=z):=⟨_,lh rfl⟩;rw[hz.out] at crow hown hlen2;simp only[hz.out] at HBNY HBFP;obtain⟨zA,zc,zl⟩:=z
      simp only at crow hown hlen2 HBNY HBFP
      have cX:wr.cell? ⟨gX,0,none⟩=some (.slice (some ⟨gB,0,none⟩) n n):=HW2.out.1.cell 0;have hgA:zA.map (·.block)≠some gX:=own_blk hown HW2.out.1 de;have hgAx:zA.map (·.block)≠some gx:=own_blk hown HW2.out.2 de;have hgAB:zA.map (·.block)≠some gB:=own_blk hown HBF2.out.blk de;have hgxB:gx≠gB:=blk_blk HW2.out.2 HBF2.out.blk de;have hgBl:=HBF2.out.blk.lt;have j0:=fun(w':World) (h:Kp (gB::blkO zA) wr w')=>h.cell cX (by simp[blkO_mem,hgXx,hgA]);have hBw:w.heap.size<=wr.heap.size:=X2.out.size;have HOWN:=lh hown;replace hrl2:=lh hrl2;refine Xr.start (gB::blkO zA) kr ?_;refine Xtk 0 ?_
      iterate 4(refine Xtn ?_)
      refine Xtk 6 ?_;refine Xr.lazy 7 45 8 (fun q=>.slice (some ⟨q,0,none⟩) 1 1) 3 #[.int .i64 i] rfl (fun b hb=>?_) dK si (fun w'=>by go_simp) ?_
      ·rcases List.mem_cons.1 hb with rfl|hb
       ·exact hgBl
       ·exact(OwnS.blt HOWN.out (blkO_mem.1 hb)).1
      refine Xsp 5 fun w4 hE4 hK4 K hKK=>?_;have c44:=hE4.cell crow;go_simp;refine hKK _ _ (WI_refl _ _ _) hK4 ?_;clear hKK c44;refine ptm ?_;refine Xr.stepZ rfl dK (fun _=>by rfl) (fun w5 g5 hE5 hK5 hg5 hB5 hno K hKK=>?_);have x5:=hE4.trans hE5;obtain⟨iB,jB0,jB1,jB2,jB3⟩:=info_parts infoNk;refine wp_app _ _ _ _ rfl w.heap.size 3 iB (.int .i64 0) 1 8 Tryz.underlying22 jB0 jB1 jB2 jB3 rfl om zA zl.length zc (zl.map (Value.int .i64)) rfl (OwnS.ext HOWN.out x5) _ 1 1 [.int .i64 i] rfl rfl (blk_cells hB5) (by intro u hu;simp only[List.mem_cons,List.not_mem_nil,or_false] at hu;rcases hu with rfl;rfl) um om (by have:=x5.size;omega) ?_;intro A9 c9 w9 ho9 hg9 hat9;refine hKK _ _ (WI_kp (KpP.of_grown hg9) (fun i hi=>List.mem_cons_of_mem _ (blkO_mem.2 hi))) (hK5.kpP (KpP.of_grown hg9) (fun i hi=>List.mem_cons_of_mem _ (blkO_mem.2 hi))) ?_;clear hKK;refine ptm ?_;refine Xtk 9 ?_;have bg9:=(KpP.of_grown hg9).blk (HBF2.out.blk.ext x5) hgAB;refine Xsp 10 fun w10 hE10 hK10 K hKK=>?_;have cg10:=(bg9.ext hE10).cellZ htr;have fg10:=(bg9.ext hE10).frz t;go_simp;refine hKK _ _ (WI_setL (WI_refl _ _ _) List.mem_cons_self _ _) (hK10.setL List.mem_cons_self _ _) ?_;clear hKK;refine ptm ?_;refine Xdn fun w11 hE11 hK11=>?_;have HBF11:=lh ((HBFP w5 w9 w10 x5 A9 c9 (.slice A9 (zl.length+1) c9) si (by unfold OwnI;simpa using ho9) hg9 hat9 hE10).out.ext hE11);have HBN11:=HBNY A9 c9;have kg9:=KpP.of_grown hg9;have HW11:Hid (FndW w11 gX gx g gB n):=lh ⟨(((kg9.blk (HW2.out.1.ext x5) hgA).ext hE10).far (p:=⟨gB,t,none⟩) (by show gX≠gB;omega) _).ext hE11,(((kg9.blk (HW2.out.2.ext x5) hgAx).ext hE10).far (p:=⟨gB,t,none⟩) (by show gx≠gB;omega) _).ext hE11⟩
      have X11:Hid (Ext w w11):=lh ((((((X2.out.trans x5).kp kg9 (fun i hi=>OwnS.row HOWN.out i hi)).trans hE10).setNew (p:=⟨gB,t,none⟩) hgBw _)).trans hE11);clear kg9 x5 hE4 hK4 hE5 hK5 hE10 hK10 hE11 hK11 cg10 fg10 bg9 ho9 hg9 hat9 hB5 hno hg5 j0 HBFP HBNY
      go_wp2_with fail
      refine⟨⟨_,_,_,⟨k+1,?_,om,_,HBF11,HBN11⟩,rfl,rfl,rfl⟩,by simp[intOf];omega⟩
      go_num
    ·have hkI:¬(k:Int)<nc:=om;obtain rfl:nc=k:=om;have HBN3:=lh HBN2.out.row
     go_wp2_with fail
     go_roundw
     case rel=>exact⟨i+1,rows2,by go_num,om,HBF2,HBN3,HW2,X2⟩
     case measure=>simp[intOf];omega
  ·have hiI:¬(i:Int)<n:=om;obtain rfl:n=i:=om;have hrl:=lh HBN.out.len;have HMr:=lh (HM.out.ext X1.out);have cx:wm.cell? ⟨gx,0,none⟩=some (.pointer (some ⟨g,0,none⟩)):=HW.out.2.cell 0;have c3:wm.cell? ⟨g,3,none⟩=some (.slice m.nA m.next.length m.nc):=HMr.out.blk.cell 3;have c5:wm.cell? ⟨g,5,none⟩=some (.slice m.oA m.opn.length m.oc):=HMr.out.blk.cell 5;have fg:=HMr.out.blk.frz 5;have hgl:=HMr.out.blk.lt;have hgxg:gx≠g:=fun e=>hgne e.symm;rw[hnE.out] at c3;have j0:=fun(w':World) (h:Kp [g] wm w')=>h.cell cx (by simp[hgxg]);have hmb:=mkBoolsA n om
   go_upto_region 13 with fail
   refine Xr.start [g] kr ?_;refine Xtk 0 ?_
   iterate 3(refine Xtn ?_)
   refine Xsp 4 fun w4 hE4 hK4 K hKK=>?_;have c34:=hE4.cell c3;go_simp;refine hKK _ _ (WI_refl _ _ _) hK4 ?_;clear hKK c34;refine ptm ?_;refine Xtk 5 ?_;refine Xcl 6 fun w5 hE5 hK5 K hKK=>?_;have EM:=Ext.alloc w5 (.cells (bInts (List.replicate n false)) 4);have BM:=Blk.new w5 4 (bInts (List.replicate n false));go_simp;refine hKK _ _ EM ?_;clear hKK;refine ptm ?_;obtain⟨gO,hgO⟩:∃q,q=w5.heap.size:=⟨_,rfl⟩
   rw[<-hgO] at BM ⊢;have hgOl:wm.heap.size<=gO:=by have:=(hE4.trans hE5).size;omega
   clear hgO;generalize w5.alloc (.cells (bInts (List.replicate n false)) 4)=w6 at *;refine Xtk 7 ?_;refine Xtn ?_;refine Xsp 9 fun w7 hE7 hK7 K hKK=>?_;have x7:=((hE4.trans hE5).trans EM).trans hE7;have c57:=x7.cell c5;have f57:=(HMr.out.blk.ext x7).frz 5;go_simp;refine hKK _ _ (WI_setL (WI_refl _ _ _) List.mem_cons_self _ _) (hK7.setL List.mem_cons_self _ _) ?_;clear hKK;refine ptm ?_;refine Xdn fun w8 hE8 hK8=>?_;have hbset:=(HMr.out.blk.ext x7).set 5 (.slice (some ⟨gO,0,none⟩) n n);have hset:Blk (w7.setCell ⟨g,5,none⟩ (.slice (some ⟨gO,0,none⟩) n n)) g 145 (maCellsO m (some ⟨gO,0,none⟩) n):=by simpa[maCells,maCellsO] using hbset
   have K8:KpP (·=g) wm (w7.setCell ⟨g,5,none⟩ (.slice (some ⟨gO,0,none⟩) n n)):=KpP.set (p:=(·=g)) (x:=⟨g,5,none⟩) (KpP.of_ext x7) (.inl rfl) _;have hBl:=HBF.out.blk.lt;have hXl:=HW.out.1.lt;have hxl:=HW.out.2.lt;have HBF8:=lh ((HBF.out.kp K8 (fun b hb cur T hh=>by
    have e:b=g:=hb;subst e;have h2:=HMr.out.blk;unfold Blk at h2;rw[h2] at hh;injection hh with hh;injection hh with _ e2 _
    subst e2;exact⟨by decide,by decide⟩)).ext hE8)
   have HW8:Hid (FndW w8 gX gx g gB n):=lh ⟨(K8.blk HW.out.1 (blk_blk HW.out.1 HMr.out.blk de)).ext hE8,(K8.blk HW.out.2 hgxg).ext hE8⟩;have HG8:=lh (hset.ext hE8);have HO8:Hid (Blk w8 gO 4 (bInts (List.replicate n false))):=lh (((BM.ext hE7).far (p:=⟨g,5,none⟩) (by show gO≠g;omega) _).ext hE8);have HK8:Hid (KpP (·=g) w w8):=lh (((KpP.of_ext X1.out).trans K8).trans (KpP.of_ext hE8));clear hbset hset K8 x7 hE4 hK4 hE5 hK5 hE7 hK7 hE8 hK8 c57 f57 EM BM c3 c5 cx fg j0;have EF:=Ext.alloc w8 (.cells #[.nilFunc] 153);have BF:=Blk.new w8 153 #[.nilFunc]
   go_upto_region 15 with fail
   obtain⟨gl,hgl⟩:∃q,q=w8.heap.size:=⟨_,rfl⟩
   rw[<-hgl] at BF ⊢;have hglw:wm.heap.size<=gl:=by have:=HK8.out.size;have:=HO8.out.lt;omega
   clear hgl;generalize w8.alloc (.cells #[.nilFunc] 153)=w9 at *;have za:w9.cell? ⟨gl,0,none⟩=some .nilFunc:=BF.cell 0;have fa:=BF.frz 0;have hst:(store ⟨gl,0,none⟩ (.func (.func 140) #[] #[.pointer (some ⟨gX,0,none⟩),.pointer (some ⟨gx,0,none⟩),.pointer (some ⟨gl,0,none⟩)])).run Tryz.prog w9=.ok () (w9.setCell ⟨gl,0,none⟩ (.func (.func 140) #[] #[.pointer (some ⟨gX,0,none⟩),.pointer (some ⟨gx,0,none⟩),.pointer (some ⟨gl,0,none⟩)])):=by
    rw[run_store Tryz.prog w9 _ _ _ rfl,za];simp[fa]
   go_upto_region 16 with fail
   have hOl:=HO8.out.lt;have HWA:Hid (LeM (w9.setCell ⟨gl,0,none⟩ (.func (.func 140) #[] #[.pointer (some ⟨gX,0,none⟩),.pointer (some ⟨gx,0,none⟩),.pointer (some ⟨gl,0,none⟩)])) ⟨w.heap.size,gX,gx,gl,g,gB,gO⟩ m rows (List.replicate n false)):=by
    have bf:=BF.set 0 (leadV ⟨w.heap.size,gX,gx,gl,g,gB,gO⟩);have d1:=blk_blk (HW8.out.1.ext EF) BF de;have d2:=blk_blk (HW8.out.2.ext EF) BF de;have d3:=blk_blk (HG8.out.ext EF) BF de;have d4:=blk_blk (HO8.out.ext EF) BF de;have d5:=blk_blk (HBF8.out.blk.ext EF) BF de;have kS:KpP (·=gl) w9 (w9.setCell ⟨gl,0,none⟩ (leadV ⟨w.heap.size,gX,gx,gl,g,gB,gO⟩)):=KpP.set (p:=(·=gl)) (x:=⟨gl,0,none⟩) (KpP.refl _ _) (.inl rfl) _;refine lh ⟨?_,(HW8.out.2.ext EF).far d2 _,by simpa[leadV] using bf,?_,(HO8.out.ext EF).far d4 _,(HBF8.out.ext EF).kp kS (fun b hb cur T hh=>?_),by rw[hrl.out];simp⟩
    ·have b:=(HW8.out.1.ext EF).far (p:=⟨gl,0,none⟩) d1 (leadV ⟨w.heap.size,gX,gx,gl,g,gB,gO⟩);simp only[hrl.out];exact b
    ·have b:=(HG8.out.ext EF).far (p:=⟨gl,0,none⟩) d3 (leadV ⟨w.heap.size,gX,gx,gl,g,gB,gO⟩);simp only[hrl.out];exact b
    ·have e:b=gl:=hb;subst e;unfold Blk at BF;rw[BF] at hh;injection hh with hh;injection hh with _ e2 _
     subst e2;exact⟨by decide,by decide⟩
   have HKA:Hid (KpP (·=g) w (w9.setCell ⟨gl,0,none⟩ (.func (.func 140) #[] #[.pointer (some ⟨gX,0,none⟩),.pointer (some ⟨gx,0,none⟩),.pointer (some ⟨gl,0,none⟩)]))):=lh (KpP.set (x:=⟨gl,0,none⟩) (HK8.out.trans (KpP.of_ext EF)) (.inr (by have:=X1.out.size;show w.heap.size<=gl;omega)) _);generalize w9.setCell ⟨gl,0,none⟩ (.func (.func 140) #[] #[.pointer (some ⟨gX,0,none⟩),.pointer (some ⟨gx,0,none⟩),.pointer (some ⟨gl,0,none⟩)])=wa at *;clear hst za fa BF EF HO8 HG8 HW8 HBF8 HK8;have hgOw:w.heap.size<=gO:=by have:=X1.out.size;omega
   clear HBF HW X1 HMr;have HE:Hid (∀t q,t<n->(EdgN n nc (rowsOf m.next) q t<->q∈bef NX nc n t)):=lh (fun t q _=>by rw[bef_mem,hNX.out];exact Iff.rfl);have HN:Hid (∀t (ht:t<rows.length),rows[t].l=natsI (bef NX nc n t)/\(bef NX nc n t).length<=1000000000/\∀q∈bef NX nc n t,q<rows.length):=lh (fun t ht=>by
    refine⟨by rw[HBN.out.get ht,befK_zero],?_,fun q hq=>by rw[hrl.out];exact(bef_mem.1 hq).1⟩;have h1:=bef_len (nx:=NX) (m:=nc) (t:=t) n;have h2:n*nc<=1024*10000:=Nat.mul_le_mul hn hnc;omega)
   have HLEAD:=fun(w':World) (op:List Bool) (t:Nat) (hL:LeM w' ⟨w.heap.size,gX,gx,gl,g,gB,gO⟩ m rows op) (ht:t<n)=>lh (lead_any ⟨w.heap.size,gX,gx,gl,g,gB,gO⟩ m rows (fun t=>bef NX nc n t) HN.out (EdgN n nc (rowsOf m.next)) (fun t q ht=>HE.out t q (by rw[hrl.out] at ht;exact ht)) (by rw[hrl.out];omega) (cntF op+1) w' op t hL (Nat.lt_succ_self _) (by rw[hrl.out];exact ht));have HF0:Hid (FindI (EdgN n nc (rowsOf m.next)) (Mk1 (List.replicate n false)) (fun q=>q<0/\m.done.getD q false=true)):=lh (FindI.start (fun x h=>absurd h.1 (Nat.not_lt_zero _)));have cx:wa.cell? ⟨gx,0,none⟩=some (.pointer (some ⟨g,0,none⟩)):=HWA.out.bm.cell 0;have c4:wa.cell? ⟨g,4,none⟩=some (.slice m.dA m.done.length m.dc):=HWA.out.bg.cell 4;have hdl:=HDL.out;rw[hnE.out] at hdl;rw[hdl] at c4;obtain⟨DA,hDA⟩:∃DA,Hid (m.dA=DA):=⟨_,lh rfl⟩;rw[hDA.out] at c4;have HKD:=fun(w':World) (k:KpP (·=g) w w')=>lh (show IB w' DA m.dc m.done from by have h:=(HKG w' k).out.2;rw[hDA.out] at h;exact h);have HDL2:=lh hdl;clear hdl
   go_upto_region 17 with fail
   clear cx c4
   go_loopw [65] (fun v wr=>∃(t:Nat) (op:List Bool),v=.int .i64 t/\t<=n/\Hid (LeM wr ⟨w.heap.size,gX,gx,gl,g,gB,gO⟩ m rows op)/\Hid (FindI (EdgN n nc (rowsOf m.next)) (Mk1 op) (fun q=>q<t/\m.done.getD q false=true))/\Hid (KpP (·=g) w wr)) (fun v _=>n-(intOf v).toNat)
   case atStart=>exact⟨0,_,rfl,om,HWA,HF0,HKA⟩
   case round=>
    obtain⟨t,op,rfl,ht,HL,HF,HK⟩:=hrel;clear HWA HF0 HKA;obtain⟨wt,hwt⟩:∃x,x=wr:=⟨_,rfl⟩;subst hwt;by_cases hlt2:t<n
    ·have htI:(t:Int)<n:=om;have htd:t<m.done.length:=by rw[HDL2.out];exact hlt2
     obtain⟨db,dd,hdA,cd⟩:=(HKD wt HK.out).out.get htd;have hdA':=hdA;subst hdA';clear hdA;have HDV:=lh (show m.done.getD t false=m.done[t] by simp[List.getD_eq_getElem?_getD,htd]);generalize m.done[t]=bd at *;have HTS:Hid (∀q,q<t+1/\m.done.getD q false=true<->(q<t/\m.done.getD q false=true)\/(q=t/\bd=true)):=lh (fun q=>by
      constructor
      ·rintro⟨h1,h2⟩;by_cases e:q=t
       ·subst e;exact .inr ⟨rfl,by rw[<-HDV.out];exact h2⟩
       ·exact .inl ⟨om,h2⟩
      ·rintro(⟨h1,h2⟩|⟨rfl,h2⟩)
       ·exact⟨om,h2⟩
       ·exact⟨om,by rw[HDV.out];exact h2⟩)
     have cl:wt.cell? ⟨gl,0,none⟩=some (leadV ⟨w.heap.size,gX,gx,gl,g,gB,gO⟩):=HL.out.bl.cell 0;unfold leadV at cl;have eg:=egFind;have HLC:=HLEAD wt op t HL.out hlt2;by_cases hb:bd=true
     ·subst hb
      go_wp2_with (go_at_fn 140;refine HLC.out.mono ?_;rintro e w7 ⟨op7,rfl,h7,k7,kk7⟩)
      have HL7:=lh h7;have HF7:=lh ((HF.out.step k7).iff (T':=fun q=>q<t+1/\m.done.getD q false=true) (fun q=>by rw[HTS.out q];simp));have HK7:Hid (KpP (·=g) w w7):=lh (KpP.chain HK.out kk7 (fun i hi=>.inr (by have e:i=gO:=hi;omega)));clear h7 k7 kk7 cl HLC;go_roundw
      case rel=>exact⟨t+1,op7,by go_num,om,HL7,HF7,HK7⟩
      case measure=>simp[intOf];omega
     ·have hb2:bd=false:=by simpa using hb
      subst hb2;have HF7:=lh (HF.out.iff (T':=fun q=>q<t+1/\m.done.getD q false=true) (fun q=>by rw[HTS.out q];simp));clear cl HLC
      go_wp2_with fail
      go_roundw
      case rel=>exact⟨t+1,op,by go_num,om,HL,HF7,HK⟩
      case measure=>simp[intOf];omega
    ·have htI:¬(t:Int)<n:=om;obtain rfl:n=t:=om
     go_wp2_with fail
     refine bodyPost_ret (v:=.tuple #[]) (by simp[results,Tryz.results74,go_sem]) rfl ⟨gO,op,rfl,⟨?_,(HKG wt HK.out).out.1,(HKG wt HK.out).out.2,?_⟩,⟨?_,fun j=>?_⟩,HK.out⟩
     ·have b:=HL.out.bg;simp only[hrl.out] at b;have e:=HL.out.ol;rw[hrl.out] at e;unfold maCellsO at b;simp only[hnE.out] at b;simp only[maCells,e,hnE.out];exact b
     ·have e:=HL.out.ol;rw[hrl.out] at e;have b:=IB.of_blkB HL.out.bo (by rw[e];unfold maxLen;omega);rw[e] at b;simp only[hnE.out];exact b
     ·rw[hnE.out];have e:=HL.out.ol;rw[hrl.out] at e;exact e
     ·rw[hnE.out];exact HF.out.law j
end
section
open Go.RowKit
theorem nodup_len {α:Type}[DecidableEq α]:∀{l E:List α},l.Nodup->(∀x∈l,x∈E)->l.length<=E.length
 | [],_,_,_=>Nat.zero_le _
 | x::l,E,h,hs=>by
  obtain⟨h1,h2⟩:=List.nodup_cons.1 h;have ih:=nodup_len (l:=l) (E:=E.erase x) h2 (fun y hy=>(List.mem_erase_of_ne (fun e=>h1 (by rw[<-e];exact hy))).2 (hs y (by simp[hy])));have hx:=hs x si;rw[List.length_erase_of_mem hx] at ih;have:=List.length_pos_of_mem hx;simp only[List.length_cons];omega
theorem putE_T {top T:Int}(hT:top<=T)(l:List Int)(n:Int):putE l n top=l\/putE l n top=putE l n T:=by
 by_cases h:top<n
 ·left;unfold putE;rw[if_pos (.inl h)]
 ·right;unfold putE
  have:¬T<n:=om;simp[h,this]
theorem putE_in {top T:Int}(hT:top<=T){l E:List Int}{n:Int}(h:Ends l T)(hl:∀x∈l,x∈E)(hn:n∈E):Ends (putE l n top) T/\∀x∈putE l n top,x∈E:=by
 rcases putE_T hT l n with e|e
 ·rw[e];exact⟨h,hl⟩
 ·rw[e];exact⟨putE_ends h,fun x hx=>by
   rcases(putE_mem h).1 hx with h|⟨rfl,_⟩
   ·exact hl x h
   ·exact hn⟩
theorem putS_in {top T:Int}(hT:top<=T){E:List Int}:∀(b:List Sp) {l:List Int},Ends l T->(∀x∈l,x∈E)->(∀s∈b,s.1∈E/\s.2+1∈E)->Ends (b.foldl (putS top) l) T/\∀x∈b.foldl (putS top) l,x∈E
 | [],l,h,h1,_=>⟨h,h1⟩
 | s::b,l,h,h1,h2=>by
  have hs:=h2 s si;obtain⟨k1,k2⟩:=putE_in hT h h1 hs.1;obtain⟨k3,k4⟩:=putE_in hT k1 k2 hs.2;exact putS_in hT b (l:=putS top l s) k3 k4 (fun t ht=>h2 t (by simp[ht]))
theorem ends_few {E:List Int}(h0:(0:Int)∈E)(top:Int)(ls:List (List Sp))(h:∀s∈ls.flatten,s.1∈E/\s.2+1∈E):(endsT top ls).length<=E.length:=by
 obtain⟨h1,h2⟩:=putS_in (top:=top) (T:=max top 0) om (E:=E) ls.flatten (l:=[0]) ⟨by simp,by simp;omega⟩ (by simpa using h0) h;exact nodup_len (h1.inc.imp (fun{a b} h e=>om)) h2
theorem flat_len {k:Nat}:∀{ls:List (List Sp)},(∀a∈ls,a.length<=k)->ls.flatten.length<=ls.length*k
 | [],_=>by simp
 | a::ls,h=>by
  have ih:=flat_len (ls:=ls) (fun b hb=>h b (by simp[hb]));have:=h a si;rw[List.flatten_cons,List.length_append,List.length_cons,Nat.add_mul,Nat.one_mul];omega
theorem smallG_of {E:List Int}(h0:(0:Int)∈E)(hE:E.length<=100){hs:List Hin}(hl:hs.length<=1000)(h:∀i∈hs,SetE E i.l):SmallG (insL hs):=by
 have hm:∀a∈setsOf (insL hs),SetE E a:=fun a ha=>by
  unfold setsOf insL at ha;obtain⟨i,hi,rfl⟩:=List.mem_map.1 ha;obtain⟨j,hj,rfl⟩:=List.mem_map.1 (List.mem_filter.1 hi).1;exact h j hj
 have hn:(setsOf (insL hs)).length<=1000:=by
  unfold setsOf insL;rw[List.length_map];have:=List.length_filter_le (fun i:Ins=>decide (i.op=1)) (hs.map Hin.ins);rw[List.length_map] at this;omega
 refine⟨om,?_,fun top=>?_⟩
 ·have:=flat_len (k:=3) (fun a ha=>(hm a ha).1);omega
 ·have:=ends_few h0 top (setsOf (insL hs)) (fun s hs=>by
   obtain⟨a,ha,hs⟩:=List.mem_flatten.1 hs;exact(hm a ha).2 s hs)
  omega
theorem chk_of {G:List Ins}(h1:¬8192<G.length)(h2:G.length≠0)(h3:∀i∈G,InsOk false 0 G.length i)(h4:∃i,G.getLast? = some i/\i.op=0)(h5:∀i∈G,i.op≠5):chkE false 0 G=0:=by
 obtain⟨i,h6,h7⟩:=h4;have e:progE false 0 G=0:=by
  unfold progE;rw[if_neg h1,if_neg om,if_pos h3,h6];simp[h7]
 unfold chkE;rw[e,if_neg si,if_neg (by rintro⟨j,hj,h⟩;exact h5 j hj h)]
theorem new_of {G:List Ins}(h1:chkE false 0 G=0)(h2:splitE (setsOf G) (topV false)=0)(h3:(stsG G (symsP false G)).isSome=true):newE false 0 G=0:=by
 unfold newE;rw[if_neg (by simp[h1]),if_neg (by simp[h2])]
 cases h:stsG G (symsP false G) with
 | none=>rw[h] at h3;cases h3
 | some _=>rfl
def exG4:List Ins:=[⟨1,0,0,0,[(97,98)]⟩,⟨1,0,0,0,[(97,98)]⟩,⟨0,0,0,0,[]⟩]
theorem valid_ab:validE [(97,98)]=0:=by
 rw[validE_ok]
 ·simp
 ·intro i hi;simp only[List.length_cons,List.length_nil,Nat.zero_add,Nat.lt_one_iff] at hi;subst hi;intro _;refine⟨?_,fun h=>absurd h om⟩;simp[goodS]
theorem ins_ab (n:Nat):InsOk false 0 n ⟨1,0,0,0,[(97,98)]⟩:=by
 refine⟨by simp,by simp,by simp,by simp,.inr (.inl ⟨rfl,valid_ab,fun s hs=>?_⟩)⟩;simp at hs;subst hs;simp[topV]
theorem ex4_chk:chkE false 0 exG4=0:=by
 refine chk_of (by simp[exG4]) (by simp[exG4]) (fun i hi=>?_) ⟨_,rfl,rfl⟩ (fun i hi=>?_)
 ·simp only[exG4,List.mem_cons,List.not_mem_nil,or_false] at hi;rcases hi with rfl|rfl|rfl
  ·exact ins_ab _
  ·exact ins_ab _
  ·simp[InsOk]
 ·simp only[exG4,List.mem_cons,List.not_mem_nil,or_false] at hi;rcases hi with rfl|rfl|rfl<;>simp
theorem ex4_split:splitE (setsOf exG4) (topV false)=0:=by
 have e:topV false=255:=rfl;have h:setsOf exG4=[[(97,98)],[(97,98)]]:=rfl;have hc:(classes (setsOf exG4) 255).any (fun a=>decide (64<a.length))=false:=by decide +kernel
 have hv:vErr [[(97,98)],[(97,98)]]=0:=by
  rw[vErr,if_pos valid_ab,vErr,if_pos valid_ab];rfl
 unfold splitE;rw[e,hc,h,hv]
 simp
theorem ex4_new:newE false 0 exG4=0:=new_of ex4_chk ex4_split dK
end
end Go.Proofs.YtmpcoifnpflapaaGreat
