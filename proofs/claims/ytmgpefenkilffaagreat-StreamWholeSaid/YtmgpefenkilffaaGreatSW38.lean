/- Texts of this proof: U4 U5 U6 U7 UC UM Y22 UD UP PK5 PK6 PK1 PK7. -/
import Derived.Test.YtmgpefenkilffaaGreatSW18
import Derived.Test.YtmgpefenkilffaaGreatSW35
import Derived.Lib.SliceRun
set_option linter.all false
set_option maxRecDepth 100000
set_option maxHeartbeats 16000000
namespace Go.Proofs.YtmgpefenkilffaaGreat
section
open Go.RowKit
open Go.ChangeMaps (setBlock)
attribute [local go_sem ↓] Go.wp_at_zero Go.wp_at_succ
theorem conv_ownA {w:World}{base c:Nat}{A:Option Addr}{bs:List Int}(h:OwnS w base 5 1 A bs.length c (bs.map (Value.int .u8))) :
 (convert 331 9 (.slice A bs.length c)).run Tryz.prog w=.ok (.string (strOfNums bs)) w:=by
 by_cases hn:bs=[]
 ·subst hn;have hu:Tryz.prog.underlying 5=some (.int .u8):=by kernel_rfl
  have hs:Tryz.prog.underlying 9=some .string:=by kernel_rfl
  rcases OwnS.form h with⟨rfl,_,rfl,_⟩|⟨g,cur,rfl,_,hh,_⟩
  ·rw[run_convert_bytes_string w _ _ _ none _ 0 Tryz.underlying331 hu hs]
   rfl
  ·have hl:(loadCells ⟨g,0,none⟩ 0).run Tryz.prog w=.ok (([]:List Int).map (Value.int .u8)).toArray w:=by
    have h2:=run_loadCells_list (P:=Tryz.prog) w ⟨g,0,none⟩ [] (fun j v hj=>by simp at hj);exact h2
   rw[run_convert_bytes_string w _ _ _ (some ⟨g,0,none⟩) _ c Tryz.underlying331 hu hs];exact run_bytesToString w _ _ c [] hl
 ·exact conv_own h hn
theorem skeyOf_any (A:Option Addr)(c:Nat)(l:List Nat)(w:World)(hl:IL w A c (natsI l))(hll:l.length<=10000)(hlt:∀i∈l,i<65536) :
 Calls Tryz.prog 144 #[.slice A l.length c] w (RetV (.string (keyS l)) w):=by
 have hcap:=hl.len;rw[natsI_len] at hcap;have hiU:(Tryz.prog.info? 5).map (fun i=>(i.zero,i.size,i.bytes))=some (some (.int .u8 0),1,1):=by kernel_rfl
 obtain⟨iU,jU0,jU1,jU2,jU3⟩:=info_parts hiU;clear hiU;have HLI:=lh hl;have hmk:=mkCap l.length om;have hmul:IntKind.i64.wrap (2*(l.length:Int))=2*(l.length:Int):=wj;clear hl;go_enter Tryz.func144,Tryz.ntmps144
 go_upto_region 2 with fail
 have BK:=Blk.new w 5 (Array.replicate (2*l.length) (.int .u8 0));have EK:=Ext.alloc w (.cells (Array.replicate (2*l.length) (.int .u8 0)) 5);generalize w.alloc (.cells (Array.replicate (2*l.length) (.int .u8 0)) 5)=w1 at *;obtain⟨gK,hgK⟩:∃gK,gK=w.heap.size:=⟨_,rfl⟩
 rw[<-hgK] at BK ⊢;have OK0:OwnS w1 gK 5 1 (some ⟨gK,0,none⟩) 0 (2*l.length) []:=by
  have:=OwnS.of_blk (base:=gK) (size:=1) (n:=0) (c:=2*l.length) BK (Nat.le_refl _) si (Nat.zero_le _) um
  simpa using this
 have HGK:=lh hgK;clear hgK hmk
 go_upto_region 3 with fail
 go_loopw [3,12] (fun v3 v12 wr=>∃(k:Nat) (B:Option Addr) (d:Nat),v12=.int .i64 k/\k<=l.length/\v3=.slice B (2*k) d/\Hid (OwnS wr gK 5 1 B (2*k) d ((keyB (l.take k)).map (Value.int .u8)))/\Ext w wr) (fun _ v _=>l.length-(intOf v).toNat)
 case atStart=>exact⟨0,some ⟨gK,0,none⟩,2*l.length,rfl,om,rfl,lh OK0,EK⟩
 case round=>
  obtain⟨k,B,d,rfl,hk,rfl,HB,x1⟩:=hrel;by_cases hlt2:k<l.length
  ·have hkI:(k:Int)<l.length:=om;obtain⟨fb,fo,hA,cf⟩:=(HLI.out.ext x1).get (k:=k) (by rw[natsI_len];exact hlt2);have hA':=hA;subst hA';have hnv:(natsI l)[k]'(by rw[natsI_len];exact hlt2)=(l[k]:Int):=by simp[natsI]
   rw[hnv] at cf;have HS:=lh (keyB_snoc hlt2);have hx:=hlt _ (List.getElem_mem hlt2);generalize l[k]=x at *;clear hnv;have HS2:=lh (show keyB (l.take (k+1))=keyB (l.take k)++[(x:Int) / 256,(x:Int) % 256] by
    rw[HS.out]
    congr 1
    have e1:((x / 256 % 256:Nat):Int)=(x:Int) / 256:=om;have e2:((x % 256:Nat):Int)=(x:Int) % 256:=om;rw[e1,e2])
   have hgw:gK<=wr.heap.size:=by rw[HGK.out];exact x1.size
   clear HS
   go_wp2_with ((at_builtin;refine wpList_app _ rfl _ _ _ rfl gK 5 iU (.int .u8 0) 1 1 Tryz.underlying331 jU0 jU1 jU2 jU3 rfl om B (2*k) d ((keyB (l.take k)).map (Value.int .u8)) rfl (OwnS.ext HB.out (Ext.alloc _ _)) _ 2 2 [.int .u8 ((x:Int) / 256),.int .u8 ((x:Int) % 256)] rfl rfl (blk_cells (Blk.new _ _ _)) (by intro u hu;simp only[List.mem_cons,List.not_mem_nil,or_false] at hu;rcases hu with rfl|rfl<;>rfl) um om (Nat.le_trans hgw (Ext.alloc _ _).size) ?_;intro B8 d8 w8 ho8 hg8 hat8))
   have e8:Ext w w8:=(x1.trans (Ext.alloc _ _)).grown hg8 (fun i hi=>by rw[<-HGK.out];exact OwnS.row HB.out _ hi);have HB8:=lh (show OwnS w8 gK 5 1 B8 (2*(k+1)) d8 ((keyB (l.take (k+1))).map (Value.int .u8)) by
    rw[HS2.out,List.map_append];exact ho8)
   go_roundw
   case rel=>exact⟨k+1,B8,d8,by go_num,om,rfl,HB8,e8⟩
   case measure=>simp[intOf];omega
  ·have hkI:¬(k:Int)<l.length:=om;obtain rfl:k=l.length:=om;rw[List.take_length] at HB;have hcv:(convert 331 9 (.slice B (2*l.length) d)).run Tryz.prog wr=.ok (.string (keyS l)) wr:=by
    have h:=conv_ownA (w:=wr) (base:=gK) (c:=d) (A:=B) (bs:=keyB l) (by rw[keyB_len];exact HB.out);rw[keyB_len] at h;exact h
   go_wp2_with fail
   go_ret
   exact⟨rfl,x1⟩
theorem ofC_any (i gB gm:Nat)(q:Array Value)(gc:Nat)(cd:Cd)(w:World)(hi:i<cd.ls.length)(hB:w.cell? ⟨gB,0,none⟩=some (.pointer (some ⟨gm,0,none⟩)))(h0:w.cell? ⟨gm,0,none⟩=some (.pointer (some ⟨gc,0,none⟩)))(hc:CdAt w gc cd) :
 Calls Tryz.prog 145 #[.int .i64 i,.pointer (some ⟨gB,0,none⟩)] w (RetV (.bool (cd.ls.getD i false)) w):=by
 have c3:w.cell? ⟨gc,3,none⟩=some (.slice cd.lA cd.ls.length cd.lc):=hc.blk.cell 3;obtain⟨lb,lo,hA,cl⟩:=hc.ib.get hi;have hcap:=hc.ib.len;rw[hA] at c3;have e:cd.ls.getD i false=cd.ls[i]:=by simp[List.getD_eq_getElem?_getD,hi]
 rw[e];have hiI:(i:Int)<cd.ls.length:=om;generalize cd.ls[i]=v at *;generalize cd.ls.length=n at *;generalize cd.lc=lc at *;clear hA hc e;go_enter Tryz.func145,Tryz.ntmps145
 go_wp2_with fail
 go_ret
 exact⟨rfl,Ext.rfl' _⟩
def leadAny (ls:List Bool)(l:St):Bool:=l.any (fun i=>ls.getD i false)
theorem leadAny_step {ls:List Bool}{l:St}{k:Nat}(hk:k<l.length)(h0:leadAny ls (l.take k)=false)(h:ls.getD l[k] false=false):leadAny ls (l.take (k+1))=false:=by
 unfold leadAny at *;rw[List.take_succ_eq_append_getElem hk,List.any_append,h0];simp only[List.any_cons,List.any_nil,Bool.or_false,Bool.false_or];exact h
theorem leadAny_hit {ls:List Bool}{l:St}{k:Nat}(hk:k<l.length)(h:ls.getD l[k] false=true):leadAny ls l=true:=by
 unfold leadAny;rw[List.any_eq_true];exact⟨l[k],List.getElem_mem hk,h⟩
theorem oindex_any (A:Option Addr)(c:Nat)(l:List Nat)(gB gm gc:Nat)(cd:Cd)(w:World)(hl:IL w A c (natsI l))(hn:∀i∈l,i<cd.ls.length)(hB:w.cell? ⟨gB,0,none⟩=some (.pointer (some ⟨gm,0,none⟩)))(h0:w.cell? ⟨gm,0,none⟩=some (.pointer (some ⟨gc,0,none⟩)))(hc:∀w',Ext w w'->CdAt w' gc cd) :
 Calls Tryz.prog 206 #[.slice A l.length c,.func (Fn.func 145) #[] #[.pointer (some ⟨gB,0,none⟩)]] w fun e w'=>∃k:Int,e=.returned (.int .i64 k)/\(decide (0<=k)=leadAny cd.ls l)/\Ext w w':=by
 obtain⟨a1,a2⟩:=hl.len;rw[natsI_len] at a1;have HC:=fun(k:Nat) (w':World) (x:Ext w w') (hk:k<cd.ls.length)=>lh (ofC_any k gB gm #[] gc cd w' hk (x.cell hB) (x.cell h0) (hc w' x));have HN:=lh hn;clear hn hc hB h0;go_enter Tryz.func206,Tryz.ntmps206
 go_wp2
 go_loopw [8] (fun i wr=>∃k:Nat,k<=l.length/\i=.int .i64 k/\Hid (leadAny cd.ls (l.take k)=false)/\Ext w wr) (fun i _=>l.length-(intOf i).toNat)
 case atStart=>exact⟨0,Nat.zero_le _,rfl,lh rfl,Ext.rfl' _⟩
 case round=>
  obtain⟨k,hk,rfl,ht,hext⟩:=hrel;by_cases hlt:k<l.length
  ·obtain⟨p1,o1,hA,g1⟩:=(hl.ext hext).get (k:=k) (by rw[natsI_len];exact hlt);have hA':=hA;subst hA';have hlt2:(k:Int)<l.length:=om;have hnv:(natsI l)[k]'(by rw[natsI_len];exact hlt)=(l[k]:Int):=by simp[natsI]
   rw[hnv] at g1;have HC1:=HC l[k] wr hext (HN.out _ (List.getElem_mem hlt));by_cases hs:cd.ls.getD l[k] false=true
   ·have hbad:=lh (leadAny_hit hlt hs);rw[hs] at HC1;generalize l[k]=y at *;clear hs ht hnv
    go_wp2_with fail
    refine HC1.out.mono ?_;rintro e w1 ⟨rfl,hx1⟩
    go_wp2
    go_ret
    exact⟨_,rfl,by rw[hbad.out];simp,hext.trans hx1⟩
   ·have hs1:cd.ls.getD l[k] false=false:=by simpa using hs
    have hs2:=lh (leadAny_step hlt ht.out hs1);rw[hs1] at HC1;generalize l[k]=y at *;clear hs ht hs1 hnv
    go_wp2_with fail
    refine HC1.out.mono ?_;rintro e w1 ⟨rfl,hx1⟩;have xf:=hext.trans hx1
    go_wp2
    go_roundw
    case rel=>exact⟨k+1,om,by go_num,hs2,xf⟩
    case measure=>simp[intOf];omega
  ·go_wp2
   go_ret
   have h1:=ht.out;rw[List.take_of_length_le om] at h1;exact⟨_,rfl,by rw[h1];simp,hext⟩
theorem ocontains_any (A:Option Addr)(c:Nat)(l:List Nat)(gB gm gc:Nat)(cd:Cd)(w:World)(hl:IL w A c (natsI l))(hn:∀i∈l,i<cd.ls.length)(hB:w.cell? ⟨gB,0,none⟩=some (.pointer (some ⟨gm,0,none⟩)))(h0:w.cell? ⟨gm,0,none⟩=some (.pointer (some ⟨gc,0,none⟩)))(hc:∀w',Ext w w'->CdAt w' gc cd) :
 Calls Tryz.prog 135 #[.slice A l.length c,.func (Fn.func 145) #[] #[.pointer (some ⟨gB,0,none⟩)]] w (RetV (.bool (leadAny cd.ls l)) w):=by
 have HX:=lh (oindex_any A c l gB gm gc cd w hl hn hB h0 hc);generalize leadAny cd.ls l=al at *;cases al
 ·go_enter Tryz.func135,Tryz.ntmps135
  go_wp2_with fail
  refine HX.out.mono ?_;rintro e w2 ⟨k,rfl,hk,x2⟩;have hk0:decide (0<=k)=false:=hk;clear hk
  go_wp2_with fail
  go_ret
  exact⟨rfl,x2⟩
 ·go_enter Tryz.func135,Tryz.ntmps135
  go_wp2_with fail
  refine HX.out.mono ?_;rintro e w2 ⟨k,rfl,hk,x2⟩;have hk0:decide (0<=k)=true:=hk;clear hk
  go_wp2_with fail
  go_ret
  exact⟨rfl,x2⟩
end
section
open Go.RowKit
open Go.ChangeMaps (setBlock)
abbrev ptrV (b:Nat):Value:=.pointer (some ⟨b,0,none⟩)
structure Sta where
 b:Nat
 A:Option Addr
 c:Nat
 l:St
 gn:Nat
 nx:List (Int×Nat)
 rd:Int
 sl:Int
def decL (ls:List Bool)(l:St):Bool:=!leadAny ls l
def staC (cd:Cd)(z:Sta):Array Value:=#[.slice z.A z.l.length z.c,.bool (doneG (insL cd.hs) z.l),.bool (decL cd.ls z.l),.map (some z.gn),.int .i64 z.rd,.int .i64 z.sl]
structure StaAt (w:World)(cd:Cd)(z:Sta):Prop where
 blk:Blk w z.b 149 (staC cd z)
 il:IL w z.A z.c (natsI z.l)
 ty:TyI w z.A
 mp:MapAt w z.gn (Value.int .i64) ptrV z.nx
theorem StaAt.kp {w w':World}{cd:Cd}{z:Sta}{p:Nat->Prop}(h:StaAt w cd z)(k:KpP p w w')(h1:¬p z.b)(h2:¬p z.gn)(h3:∀b,z.A.map (·.block)=some b->¬p b):StaAt w' cd z:=
 ⟨k.blk h.blk h1,IL.kp h.il k (fun _=>h3),fun b hb=>by
  obtain⟨cur,hh⟩:=h.ty b hb;exact⟨cur,(k.block b (Array.getElem?_eq_some_iff.1 hh).1 (h3 b hb)).trans hh⟩,h.mp.kp k h2⟩
def clsX (cuts:List Int)(x:Int):Int:=((cuts.filter (fun c=>decide (c<=x))).length:Nat)
structure Mq where
 gm:Nat
 gc:Nat
 gS:Nat
 gM:Nat
 cd:Cd
def skey (sts:List Sta):List (ByteArray×Nat):=sts.map (fun z=>(keyS z.l,z.b))
structure SqI (w:World)(F:Nat->Prop)(q:Mq)(sts:List Sta):Prop where
 map:MapAt w q.gS Value.string ptrV (skey sts)
 at_:∀z∈sts,StaAt w q.cd z
 nx:∀z∈sts,∀kb∈z.nx,∃y∈sts,y.b=kb.2/\∀x,clsX q.cd.cuts x=kb.1->nextG (insL q.cd.hs) z.l x=y.l
 inj:∀y∈sts,∀z∈sts,(y.b=z.b\/y.gn=z.gn\/y.l=z.l)->y=z
 nM:∀z∈sts,z.A.map (·.block)≠some q.gM
 lt:∀z∈sts,∀i∈z.l,i<q.cd.hs.length
 sh:∀z∈sts,z.l.length<=10000
 fS:F q.gS
 fz:∀z∈sts,F z.b/\F z.gn/\∀b,z.A.map (·.block)=some b->F b
theorem SqI.keep {w w':World}{F:Nat->Prop}{q:Mq}{sts:List Sta}{p:Nat->Prop}(h:SqI w F q sts)(k:KpP p w w')(hS:¬p q.gS)(hz:∀z∈sts,¬p z.b/\¬p z.gn/\∀b,z.A.map (·.block)=some b->¬p b):SqI w' F q sts:=
 ⟨h.map.kp k hS,fun z m=>(h.at_ z m).kp k (hz z m).1 (hz z m).2.1 (hz z m).2.2,h.nx,h.inj,h.nM,h.lt,h.sh,h.fS,h.fz⟩
theorem SqI.kp {w w':World}{F:Nat->Prop}{q:Mq}{sts:List Sta}{p:Nat->Prop}(h:SqI w F q sts)(k:KpP p w w')(hp:∀b,F b->¬p b):SqI w' F q sts:=
 h.keep k (hp _ h.fS) (fun z m=>⟨hp _ (h.fz z m).1,hp _ (h.fz z m).2.1,fun b hb=>hp _ ((h.fz z m).2.2 b hb)⟩)
theorem SqI.ext {w w':World}{F:Nat->Prop}{q:Mq}{sts:List Sta}(h:SqI w F q sts)(x:Ext w w'):SqI w' F q sts:=h.kp (p:=fun _=>False) (KpP.of_ext x) (fun _ _ h=>h)
theorem SqI.mono {w:World}{F F':Nat->Prop}{q:Mq}{sts:List Sta}(h:SqI w F q sts)(hF:∀b,F b->F' b):SqI w F' q sts:=
 ⟨h.map,h.at_,h.nx,h.inj,h.nM,h.lt,h.sh,hF _ h.fS,fun z m=>⟨hF _ (h.fz z m).1,hF _ (h.fz z m).2.1,fun b hb=>hF _ ((h.fz z m).2.2 b hb)⟩⟩
def gF (F:Nat->Prop)(w w':World)(b:Nat):Prop:=F b\/(w.heap.size<=b/\b<w'.heap.size)
theorem gF.sub {F:Nat->Prop}{w w':World}:∀b,F b->gF F w w' b:=fun _ h=>.inl h
theorem skey_some {w:World}{F:Nat->Prop}{q:Mq}{sts:List Sta}(h:SqI w F q sts)(hn:q.cd.hs.length<=65536){l:St}(hl:∀i∈l,i<q.cd.hs.length){b:Nat}(hat:at? (skey sts) (keyS l)=some b):∃z∈sts,z.b=b/\z.l=l:=by
 unfold at? skey at hat;rw[Option.map_eq_some_iff] at hat;obtain⟨p,hp,rfl⟩:=hat;have h1:=List.find?_some hp;obtain⟨z,hz,rfl⟩:=List.mem_map.1 (List.mem_of_find?_eq_some hp);have h2:keyS z.l=keyS l:=by simpa using h1
 exact⟨z,hz,rfl,keyS_inj (fun i hi=>by have:=h.lt z hz i hi;omega) (fun i hi=>by have:=hl i hi;omega) h2⟩
theorem skey_none {sts:List Sta}{l:St}(hat:at? (skey sts) (keyS l)=none):∀z∈sts,z.l≠l:=fun z hz e=>by
 unfold at? skey at hat;rw[Option.map_eq_none_iff,List.find?_eq_none] at hat;have:=hat _ (List.mem_map.2 ⟨z,hz,rfl⟩);rw[e] at this;simp at this
theorem skey_put {sts:List Sta}{z:Sta}(hat:at? (skey sts) (keyS z.l)=none):putL (skey sts) (keyS z.l) z.b=skey (sts++[z]):=by
 unfold putL;have:(skey sts).any (fun p=>@BEq.beq ByteArray instBEqOfDecidableEq p.1 (keyS z.l))=false:=by
  rw[List.any_eq_false];intro p hp hq;unfold at? at hat;rw[Option.map_eq_none_iff,List.find?_eq_none] at hat;exact hat p hp hq
 rw[this];simp[skey]
theorem MapAt.nI {α β:Type}{w:World}{b:Nat}{kv:α->Value}{vv:β->Value}{l:List (α×β)}(h:MapAt w b kv vv l){cs:Array Value}{T:Nat}:w.heap[b]?≠some (.cells cs T (0,0)):=fun hh=>by
 obtain⟨es,cl,h2,_⟩:=h;rw[hh] at h2;cases h2
theorem SqI.put {w w':World}{F:Nat->Prop}{q:Mq}{sts:List Sta}(h:SqI w F q sts)(k:KpP (·=q.gS) w w'){z:Sta}(hm:MapAt w' q.gS Value.string ptrV (skey (sts++[z])))(hz:StaAt w' q.cd z)
 (hnx:z.nx=[]) (hb:w.heap.size<=z.b/\z.b<w'.heap.size) (hg:w.heap.size<=z.gn/\z.gn<w'.heap.size) (hl:∀y∈sts,y.l≠z.l) (hM:z.A.map (·.block)≠some q.gM) (hlt:∀i∈z.l,i<q.cd.hs.length) (hsh:z.l.length<=10000) (hF:∀b,z.A.map (·.block)=some b->gF F w w' b):SqI w' (gF F w w') q (sts++[z]):=by
 have hold:∀y∈sts,StaAt w' q.cd y:=fun y m=>(h.at_ y m).kp k (fun e=>by
  have e':y.b=q.gS:=e;have:=(h.at_ y m).blk;rw[e'] at this;exact h.map.nI this) (fun e=>by
  have e':y.gn=q.gS:=e;obtain⟨es,cl,h1,h2,_⟩:=(h.at_ y m).mp;obtain⟨es',cl',h1',h2',_⟩:=h.map;rw[e',h1'] at h1;injection h1 with h1
  injection h1 with h1 _
  subst h1;have hy:(keyS y.l,y.b)∈skey sts:=List.mem_map.2 ⟨y,m,rfl⟩;have h3:es'.toList≠[]:=fun e2=>by
   rw[e2] at h2';simp only[List.map_nil] at h2';have:=List.map_eq_nil_iff.1 h2'.symm;rw[this] at hy;cases hy
  cases hh:es'.toList with
  | nil=>exact h3 hh
  | cons a r=>
   rw[hh] at h2 h2'
   cases hn:y.nx with
   | nil=>rw[hn] at h2;simp at h2
   | cons p t=>
    cases hs:skey sts with
    | nil=>rw[hs] at hy;cases hy
    | cons p' t'=>
     rw[hn] at h2;rw[hs] at h2';simp only[List.map_cons,List.cons.injEq,Prod.mk.injEq] at h2 h2';have e3:=h2.1.1.symm.trans h2'.1.1
     cases e3) (fun b hb e=>by
  have e':b=q.gS:=e;obtain⟨cur,hh⟩:=(h.at_ y m).ty b hb;rw[e'] at hh;exact h.map.nI hh)
 have hbl:∀y∈sts,y.b<w.heap.size:=fun y m=>(h.at_ y m).blk.lt;have hgl:∀y∈sts,y.gn<w.heap.size:=fun y m=>(h.at_ y m).mp.lt;refine⟨hm,fun y m=>?_,fun y m=>?_,fun y m x n e=>?_,fun y m=>?_,fun y m=>?_,fun y m=>?_,.inl h.fS,fun y m=>?_⟩
 ·rcases List.mem_append.1 m with m|m
  ·exact hold y m
  ·rw[List.mem_singleton.1 m];exact hz
 ·rcases List.mem_append.1 m with m|m
  ·intro kb hkb;obtain⟨u,hu,h1⟩:=h.nx y m kb hkb;exact⟨u,List.mem_append_left _ hu,h1⟩
  ·rw[List.mem_singleton.1 m,hnx];intro kb hkb;cases hkb
 ·rcases List.mem_append.1 m with m|m<;>rcases List.mem_append.1 n with n|n
  ·exact h.inj y m x n e
  ·rw[List.mem_singleton.1 n] at e ⊢;have h1:=hbl y m;have h2:=hgl y m;rcases e with e|e|e
   ·omega
   ·omega
   ·exact absurd e (hl y m)
  ·rw[List.mem_singleton.1 m] at e ⊢;have h1:=hbl x n;have h2:=hgl x n;rcases e with e|e|e
   ·omega
   ·omega
   ·exact absurd e.symm (hl x n)
  ·rw[List.mem_singleton.1 m,List.mem_singleton.1 n]
 ·rcases List.mem_append.1 m with m|m
  ·exact h.nM y m
  ·rw[List.mem_singleton.1 m];exact hM
 ·rcases List.mem_append.1 m with m|m
  ·exact h.lt y m
  ·rw[List.mem_singleton.1 m];exact hlt
 ·rcases List.mem_append.1 m with m|m
  ·exact h.sh y m
  ·rw[List.mem_singleton.1 m];exact hsh
 ·rcases List.mem_append.1 m with m|m
  ·exact⟨.inl (h.fz y m).1,.inl (h.fz y m).2.1,fun b hb=>.inl ((h.fz y m).2.2 b hb)⟩
  ·rw[List.mem_singleton.1 m];exact⟨.inr hb,.inr hg,hF⟩
end
section
open Go.RowKit
open Go.ChangeMaps (setBlock)
attribute [local go_sem ↓] Go.wp_at_zero Go.wp_at_succ
theorem zSta:∀W:World,(zeroValue 132).run Tryz.prog W=.ok (.pointer none) W:=fun W=>by
 have hi:(Tryz.prog.info? 132).map (fun i=>(i.zero,i.size,i.bytes))=some (some (.pointer none),1,8):=by kernel_rfl
 obtain⟨i0,h0,h1,h2,h3⟩:=info_parts hi;simp[zeroValue,typeInfo,h0,h1]
theorem CdAt.ext' {w w':World}{gc:Nat}{cd:Cd}(h:CdAt w gc cd)(x:Ext w w'):CdAt w' gc cd:=⟨h.blk.ext x,h.pl.ext x,h.il.ext x,h.ib.ext x⟩
def RetOf (F:Nat->Prop)(q:Mq)(sts:List Sta)(l:St)(w:World)(e:Ending)(w':World):Prop:=
 ∃(z:Sta) (sts':List Sta),e=.returned (ptrV z.b)/\z∈sts'/\z.l=l/\(sts'=sts\/(sts'=sts++[z]/\w.heap.size<=z.b/\z.rd=0))/\SqI w' (gF F w w') q sts'/\KpP (·=q.gS) w w'
theorem sof_any (w:World)(F:Nat->Prop)(q:Mq)(sts:List Sta)(mark rd:Int)(fv:Value)(bm:Blk w q.gm 134 (stmC q.gc q.gS q.gM q.cd.hs.length mark rd fv))(hC:CdAt w q.gc q.cd)(hS:SqI w F q sts)
 (hls:q.cd.ls.length=q.cd.hs.length) (hn:q.cd.hs.length<=8192) (A:Option Addr) (c:Nat) (l:St) (hl:IL w A c (natsI l)) (hll:l.length<=10000) (hlt:∀i∈l,i<q.cd.hs.length) (hty:TyI w A) (hnM:A.map (·.block)≠some q.gM) (hF:∀b,A.map (·.block)=some b->F b) :
 Calls Tryz.prog 69 #[ptrV q.gm,.slice A l.length c] w (RetOf F q sts l w):=by
 obtain⟨gm,gc,gS,gM,cd⟩:=q
 simp only at bm hC hls hn hlt hnM
 have hcap:=hl.len;rw[natsI_len] at hcap;have HL:=lh hl;have HLT:=lh hlt;have HS:=lh hS;have HC:=lh hC;have HB:=lh bm;have HTY:=lh hty;have HF:=lh hF;have hmm:=@run_makeMap Tryz.prog;have B0:=Blk.new w 120 #[ptrV gm];have E0:=Ext.alloc w (.cells #[ptrV gm] 120);clear hl hlt hS hC bm hty hF;go_enter Tryz.func69,Tryz.ntmps69
 go_upto_region 1 with fail
 obtain⟨gB,hgB⟩:∃gB,gB=w.heap.size:=⟨_,rfl⟩
 rw[<-hgB] at B0 ⊢;have HGB:=lh hgB;clear hgB;generalize w.alloc (.cells #[ptrV gm] 120)=w1 at *;have HK:=lh (skeyOf_any A c l w1 (HL.out.ext E0) hll (fun i hi=>by have:=HLT.out i hi;omega))
 go_upto_region 2 with fail
 refine HK.out.mono ?_;rintro e w2 ⟨rfl,X2⟩;have x2:=E0.trans X2;have q1:w2.cell? ⟨gm,1,none⟩=some (.map (some gS)):=(HB.out.ext x2).cell 1;have q0:w2.cell? ⟨gB,0,none⟩=some (ptrV gm):=(B0.ext X2).cell 0;obtain⟨S,hkS⟩:∃S,Hid (keyS l=S):=⟨_,lh rfl⟩;have HLK:=((HS.out.map.ext x2).look (str_klaw Tryz.underlying9) Tryz.underlying131 (zSta w2) (keyS l)).2;have HSM:=lh (fun b=>skey_some HS.out (by show cd.hs.length<=65536;omega) HLT.out (b:=b));have HNO:=lh (fun(h:at? (skey sts) (keyS l)=none)=>And.intro (skey_none h) (fun(z:Sta) (hz:z.l=l)=>skey_put (sts:=sts) (z:=z) (by rw[hz];exact h)));rw[hkS.out] at HLK HSM HNO ⊢;obtain⟨r,hr⟩:∃r,at? (skey sts) S=r:=⟨_,rfl⟩;rw[hr] at HLK HSM HNO;clear hr
 cases r with
 | some b=>
  obtain⟨z,hz,rfl,hzl⟩:=HSM.out b rfl;simp only[Option.map_some,Option.getD_some,Option.isSome_some] at HLK;clear HSM HNO
  go_wp2_with fail
  go_ret
  exact⟨z,sts,rfl,hz,hzl,.inl rfl,(HS.out.ext x2).mono gF.sub,KpP.of_ext x2⟩
 | none=>
  simp only[Option.map_none,Option.getD_none,Option.isSome_none] at HLK
  go_upto_region 6 with fail
  have Bn:=MapAt.made w2 (Value.int .i64) ptrV;have En:=Ext.alloc w2 (.map #[] 0);obtain⟨gn,hgn⟩:∃gn,gn=w2.heap.size:=⟨_,rfl⟩
  rw[<-hgn] at Bn ⊢;have HGN:=lh (show w.heap.size<=gn by have:=x2.size;omega);have hsz:(w2.alloc (.map #[] 0)).heap.size=gn+1:=by simp[hgn]
  clear hgn;generalize w2.alloc (.map #[] 0)=w3 at *;have Bs:=Blk.new w3 149 #[.slice A l.length c,.bool false,.bool false,.map (some gn),.int .i64 0,.int .i64 0];have Es:=Ext.alloc w3 (.cells #[.slice A l.length c,.bool false,.bool false,.map (some gn),.int .i64 0,.int .i64 0] 149);obtain⟨gs,hgs⟩:∃gs,gs=gn+1:=⟨_,rfl⟩;rw[hsz] at Bs
  rw[<-hgs] at hsz Bs ⊢;have x3:=x2.trans En;have hgs:=hsz.symm;have HGS:=lh (show w.heap.size<=gs by have:=x3.size;omega);have hgs3:∀b,b<w3.heap.size->b≠gs:=fun b hb e=>om;have HGG:=lh (show gn≠gs by omega);clear hgs hsz;clear hgs;have hgmS:=hgs3 _ (HB.out.ext x3).lt;have hgBS:=hgs3 _ ((B0.ext X2).ext En).lt;have hgcS:=hgs3 _ (HC.out.ext' x3).blk.lt;have x4:=x3.trans Es;have HBx:=lh (HB.out.ext x3);have HCx:=lh (HC.out.ext' x3);have HLx:=lh (HL.out.ext x3);have B0x:=lh ((B0.ext X2).ext En);generalize hw4:w3.alloc (.cells #[.slice A l.length c,.bool false,.bool false,.map (some gn),.int .i64 0,.int .i64 0] 149)=w4 at *;have j1:∀w',Kp [gs] w4 w'->w'.cell? ⟨gB,0,none⟩=some (ptrV gm):=fun w' h=>h.cell (Es.cell (B0x.out.cell 0)) (by simpa using hgBS);have j2:∀w',Kp [gs] w4 w'->w'.cell? ⟨gm,0,none⟩=some (ptrV gc):=fun w' h=>h.cell (Es.cell (HBx.out.cell 0)) (by simpa using hgmS);have j3:∀w',Kp [gs] w4 w'->w'.cell? ⟨gc,0,none⟩=some (.slice cd.A cd.hs.length cd.c):=fun w' h=>h.cell (Es.cell (HCx.out.blk.cell 0)) (by simpa using hgcS);by_cases hl0:l.length=0
  ·obtain rfl:l=[]:=List.length_eq_zero_iff.1 hl0;clear hl0;simp only[List.length_nil] at *;have HD:Hid (doneG (insL cd.hs) []=false):=lh rfl;refine Xr.start [gs] kr ?_;refine Xtk 0 ?_
   iterate 4(refine Xtn ?_)
   iterate 17(first|refine Xtn ?_|refine Xsn ?_)
   iterate 3(refine Xtn ?_)
   refine Xsp 25 fun w5 hE5 hK5 K hKK=>?_;have c5:w5.cell? ⟨gs,1,none⟩=some (.bool false):=(Bs.ext hE5).cell 1;have f5:=(Bs.ext hE5).frz 1;go_simp;refine hKK _ _ (WI_setL (WI_refl _ _ _) List.mem_cons_self _ _) (hK5.setL List.mem_cons_self _ _) ?_;clear hKK;refine ptm ?_;refine Xdn fun w6 hE6 hK6=>?_;have Bs6:=((Bs.ext hE5).set 1 (.bool false)).ext hE6;have HB6:=(((B0x.out.ext Es).ext hE5).far (p:=⟨gs,1,none⟩) hgBS (.bool false)).ext hE6;have x6:Ext w w6:=((x4.trans hE5).setNew (p:=⟨gs,1,none⟩) HGS.out (.bool false)).trans hE6;have HBn:=lh ((((Bn.ext Es).ext hE5).kp (KpP.set (p:=(·=gs)) (x:=⟨gs,1,none⟩) (KpP.refl _ _) (.inl rfl) (.bool false)) (by exact HGG.out)).ext hE6);have HCON:=lh (ocontains_any A c [] gB gm gc cd w6 (HL.out.ext x6) (fun i hi=>by rw[hls];exact HLT.out i hi) (j1 w6 hK6) (j2 w6 hK6) (fun w' x=>HC.out.ext' (x6.trans x)));have hgS:=HS.out.map.lt;have hSs:gs≠gS:=by have:=HGS.out;simp only at hgS;omega
   have hnS:gn≠gS:=by have:=HGN.out;simp only at hgS;omega
   clear c5 f5 j1 j2 j3 hE5 hK5 hE6 hK6 Bs Bn
   go_upto_region 8 with fail
   refine HCON.out.mono ?_;rintro e w7 ⟨rfl,X7⟩;have c7:w7.cell? ⟨gs,2,none⟩=some (.bool false):=by
    have:=(Bs6.ext X7).cell 2
    simpa using this
   have f7:=(Bs6.ext X7).frz 2;have Bs8:=(Bs6.ext X7).set 2 (.bool (!leadAny cd.ls []));have x8:Ext w (w7.setCell ⟨gs,2,none⟩ (.bool (!leadAny cd.ls []))):=(x6.trans X7).setNew (p:=⟨gs,2,none⟩) HGS.out _;have HBn8:=lh ((HBn.out.ext X7).kp (KpP.set (p:=(·=gs)) (x:=⟨gs,2,none⟩) (KpP.refl _ _) (.inl rfl) (.bool (!leadAny cd.ls []))) (by exact HGG.out))
   go_upto_region 8 with fail
   have q0B:(w7.setCell ⟨gs,2,none⟩ (.bool (!leadAny cd.ls []))).cell? ⟨gB,0,none⟩=some (ptrV gm):=by
    have b:=(HB6.ext X7).far (p:=⟨gs,2,none⟩) hgBS (.bool (!leadAny cd.ls []));exact b.cell 0
   generalize w7.setCell ⟨gs,2,none⟩ (.bool (!leadAny cd.ls []))=w8 at *;have q18:w8.cell? ⟨gm,1,none⟩=some (.map (some gS)):=(HB.out.ext x8).cell 1;obtain⟨o,ho1,hM9⟩:=(HS.out.map.ext x8).put (str_klaw Tryz.underlying9) Tryz.underlying131 (keyS []) gs;rw[hkS.out] at ho1 hM9;have kS:=kp_setBlock w8 gS o;clear c7 f7;have HR:Hid (RetOf F ⟨gm,gc,gS,gM,cd⟩ sts [] w (.returned (ptrV gs)) (setBlock w8 gS o)):=lh (by
    have hno:=HNO.out trivial;have hp:=hno.2 ⟨gs,A,c,[],gn,[],0,0⟩ rfl
    simp only at hp
    rw[hkS.out] at hp;have k9:KpP (·=gS) w (setBlock w8 gS o):=(KpP.of_ext x8).trans kS;have hgi:∀b,b=gS->∀cur,w.heap[b]?≠some (.cells cur 3 (0,0)):=fun b hb cur=>by
     subst hb;exact HS.out.map.nI
    have b9:=kS.blk Bs8 hSs;have hz:StaAt (setBlock w8 gS o) cd ⟨gs,A,c,[],gn,[],0,0⟩:=by
     refine⟨?_,IL.kpT HL.out HTY.out k9 hgi,TyI.kp HTY.out k9 hgi,HBn8.out.kp kS hnS⟩;have hd:doneG (insL cd.hs) []=false:=HD.out
     simpa[staC,hd,decL,List.length_nil] using b9
    refine⟨⟨gs,A,c,[],gn,[],0,0⟩,sts++[⟨gs,A,c,[],gn,[],0,0⟩],rfl,by simp,rfl,.inr ⟨rfl,HGS.out,rfl⟩,HS.out.put k9 ?_ hz rfl ⟨HGS.out,b9.lt⟩ ⟨HGN.out,hz.mp.lt⟩ hno.1 hnM HLT.out (by first|exact hll|exact Nat.zero_le _) (fun b hb=>.inl (HF.out b hb)),k9⟩
    rw[<-hp];exact hM9)
   go_wp2_with fail
   go_ret
   exact HR.out
  ·obtain⟨m,hm⟩:∃m,l.length=m+1:=⟨l.length-1,om⟩;have hml:m<l.length:=om;have hmI:(m:Int)<l.length:=om;have hgt:(0:Int)<l.length:=om;have hgt0:0<l.length:=om;have hgt1:decide (0<l.length)=true:=by simpa using hgt0
   have hw:IntKind.i64.wrap ((l.length:Int)-1)=(m:Int):=wj;obtain⟨lb,lo,hA,hcl⟩:=HLx.out.get (k:=m) (by rw[natsI_len];exact hml);have hnv:(natsI l)[m]'(by rw[natsI_len];exact hml)=(l[m]:Int):=by simp[natsI]
   rw[hnv] at hcl;have hp:=HLT.out _ (List.getElem_mem hml);have hlast:l.getLast? = some l[m]:=by
    rw[List.getLast?_eq_getElem?,hm];simp[hml]
   obtain⟨ib,io,hiA,hio,_⟩:=HCx.out.pl.get hp;have hcdl:=HCx.out.pl.len;have HD:Hid (doneG (insL cd.hs) l=(cd.hs[l[m]].op == 0)):=lh (by
    unfold doneG isD;rw[hlast]
    simp only
    rw[insL_get hp];simp only[Hin.ins];rw[Bool.eq_iff_iff,beq_iff_eq];exact decide_eq_true_iff)
   have hA':=hA;subst hA';have hlbs:=hgs3 _ (World.block_lt_of_cell? _ _ hcl);have hibs:=hgs3 _ (World.block_lt_of_cell? _ _ hio);rw[hiA] at j3;have hpI:((l[m]:Nat):Int)<cd.hs.length:=om;generalize cd.hs[l[m]].op=op at *;generalize l[m]=p at *
   simp only at hlbs hibs
   have j4:∀w',Kp [gs] w4 w'->w'.cell? ⟨lb,lo+m,none⟩=some (.int .i64 p):=fun w' h=>h.cell (Es.cell hcl) (by simpa using hlbs);have j5:∀w',Kp [gs] w4 w'->w'.cell? ⟨ib,io+p*5,none⟩=some (.int .i64 op):=fun w' h=>h.cell (Es.cell hio) (by simpa using hibs);clear hcl hio hlast hnv hm hA hiA hl0;refine Xr.start [gs] kr ?_;refine Xtk 0 ?_
   iterate 4(refine Xtn ?_)
   iterate 17(first|refine Xtn ?_|refine Xsn ?_)
   iterate 3(refine Xtn ?_)
   refine Xsp 25 fun w5 hE5 hK5 K hKK=>?_;have c5:w5.cell? ⟨gs,1,none⟩=some (.bool false):=(Bs.ext hE5).cell 1;have f5:=(Bs.ext hE5).frz 1;go_simp;refine hKK _ _ (WI_setL (WI_refl _ _ _) List.mem_cons_self _ _) (hK5.setL List.mem_cons_self _ _) ?_;clear hKK;refine ptm ?_;refine Xdn fun w6 hE6 hK6=>?_;have Bs6:=((Bs.ext hE5).set 1 (.bool (op == 0))).ext hE6;have HB6:=(((B0x.out.ext Es).ext hE5).far (p:=⟨gs,1,none⟩) hgBS (.bool (op == 0))).ext hE6;have x6:Ext w w6:=((x4.trans hE5).setNew (p:=⟨gs,1,none⟩) HGS.out (.bool (op == 0))).trans hE6;have HBn:=lh ((((Bn.ext Es).ext hE5).kp (KpP.set (p:=(·=gs)) (x:=⟨gs,1,none⟩) (KpP.refl _ _) (.inl rfl) (.bool (op == 0))) (by exact HGG.out)).ext hE6);have HCON:=lh (ocontains_any (some ⟨lb,lo,none⟩) c l gB gm gc cd w6 (HL.out.ext x6) (fun i hi=>by rw[hls];exact HLT.out i hi) (j1 w6 hK6) (j2 w6 hK6) (fun w' x=>HC.out.ext' (x6.trans x)));have hgS:=HS.out.map.lt;have hSs:gs≠gS:=by have:=HGS.out;simp only at hgS;omega
   have hnS:gn≠gS:=by have:=HGN.out;simp only at hgS;omega
   clear c5 f5 j1 j2 j3 j4 j5 hE5 hK5 hE6 hK6 Bs Bn
   go_upto_region 8 with fail
   refine HCON.out.mono ?_;rintro e w7 ⟨rfl,X7⟩;have c7:w7.cell? ⟨gs,2,none⟩=some (.bool false):=by
    have:=(Bs6.ext X7).cell 2
    simpa using this
   have f7:=(Bs6.ext X7).frz 2;have Bs8:=(Bs6.ext X7).set 2 (.bool (!leadAny cd.ls l));have x8:Ext w (w7.setCell ⟨gs,2,none⟩ (.bool (!leadAny cd.ls l))):=(x6.trans X7).setNew (p:=⟨gs,2,none⟩) HGS.out _;have HBn8:=lh ((HBn.out.ext X7).kp (KpP.set (p:=(·=gs)) (x:=⟨gs,2,none⟩) (KpP.refl _ _) (.inl rfl) (.bool (!leadAny cd.ls l))) (by exact HGG.out))
   go_upto_region 8 with fail
   have q0B:(w7.setCell ⟨gs,2,none⟩ (.bool (!leadAny cd.ls l))).cell? ⟨gB,0,none⟩=some (ptrV gm):=by
    have b:=(HB6.ext X7).far (p:=⟨gs,2,none⟩) hgBS (.bool (!leadAny cd.ls l));exact b.cell 0
   generalize w7.setCell ⟨gs,2,none⟩ (.bool (!leadAny cd.ls l))=w8 at *;have q18:w8.cell? ⟨gm,1,none⟩=some (.map (some gS)):=(HB.out.ext x8).cell 1;obtain⟨o,ho1,hM9⟩:=(HS.out.map.ext x8).put (str_klaw Tryz.underlying9) Tryz.underlying131 (keyS l) gs;rw[hkS.out] at ho1 hM9;have kS:=kp_setBlock w8 gS o;clear c7 f7;have HR:Hid (RetOf F ⟨gm,gc,gS,gM,cd⟩ sts l w (.returned (ptrV gs)) (setBlock w8 gS o)):=lh (by
    have hno:=HNO.out trivial;have hp:=hno.2 ⟨gs,(some ⟨lb,lo,none⟩),c,l,gn,[],0,0⟩ rfl
    simp only at hp
    rw[hkS.out] at hp;have k9:KpP (·=gS) w (setBlock w8 gS o):=(KpP.of_ext x8).trans kS;have hgi:∀b,b=gS->∀cur,w.heap[b]?≠some (.cells cur 3 (0,0)):=fun b hb cur=>by
     subst hb;exact HS.out.map.nI
    have b9:=kS.blk Bs8 hSs;have hz:StaAt (setBlock w8 gS o) cd ⟨gs,(some ⟨lb,lo,none⟩),c,l,gn,[],0,0⟩:=by
     refine⟨?_,IL.kpT HL.out HTY.out k9 hgi,TyI.kp HTY.out k9 hgi,HBn8.out.kp kS hnS⟩;have hd:doneG (insL cd.hs) l=(op == 0):=HD.out
     simpa[staC,hd,decL,List.length_nil] using b9
    refine⟨⟨gs,(some ⟨lb,lo,none⟩),c,l,gn,[],0,0⟩,sts++[⟨gs,(some ⟨lb,lo,none⟩),c,l,gn,[],0,0⟩],rfl,by simp,rfl,.inr ⟨rfl,HGS.out,rfl⟩,HS.out.put k9 ?_ hz rfl ⟨HGS.out,b9.lt⟩ ⟨HGN.out,hz.mp.lt⟩ hno.1 hnM HLT.out (by first|exact hll|exact Nat.zero_le _) (fun b hb=>.inl (HF.out b hb)),k9⟩
    rw[<-hp];exact hM9)
   go_wp2_with fail
   go_ret
   exact HR.out
end
section
open Go.RowKit
attribute [local go_sem ↓] Go.wp_at_zero Go.wp_at_succ
structure MaI (w:World)(F:Nat->Prop)(q:Mq)(mark rd:Int)(fv:Value)(sts:List Sta):Prop where
 blk:Blk w q.gm 134 (stmC q.gc q.gS q.gM q.cd.hs.length mark rd fv)
 mks:∃ms,Blk w q.gM 3 (iInts ms)/\ms.length=q.cd.hs.length/\∀i,i<q.cd.hs.length->ms.getD i 0<=mark
 sq:SqI w F q sts
 fm:F q.gm
 fM:F q.gM
def RetRe (F:Nat->Prop)(q:Mq)(sts:List Sta)(mark rd:Int)(fv:Value)(l:St)(w:World)(e:Ending)(w':World):Prop:=
 ∃(z:Sta) (sts':List Sta),e=.returned (ptrV z.b)/\z∈sts'/\z.l=l/\(sts'=sts\/(sts'=sts++[z]/\z.rd=0))/\MaI w' (gF F w w') q (mark+1) rd fv sts'/\KpP (fun b=>b=q.gm\/b=q.gM\/b=q.gS) w w'
theorem SqI.keep' {w w':World}{F:Nat->Prop}{q:Mq}{sts:List Sta}(h:SqI w F q sts)(k:KpP (fun b=>b=q.gm\/b=q.gM) w w'){cs ds:Array Value}(bm:Blk w q.gm 134 cs)(bM:Blk w q.gM 3 ds):SqI w' F q sts:=by
 refine h.keep k (fun e=>?_) (fun z m=>⟨fun e=>?_,fun e=>?_,fun b hb e=>?_⟩)
 ·rcases e with e|e
  ·exact h.map.ne bm e
  ·exact h.map.ne bM e
 ·rcases e with e|e
  ·exact blk_blk (h.at_ z m).blk bm de e
  ·exact blk_blk (h.at_ z m).blk bM de e
 ·rcases e with e|e
  ·exact(h.at_ z m).mp.ne bm e
  ·exact(h.at_ z m).mp.ne bM e
 ·rcases e with e|e
  ·obtain⟨cur,hh⟩:=(h.at_ z m).ty b hb;rw[e] at hh;unfold Blk at bm;rw[bm] at hh;injection hh with hh
   injection hh with _ h2
   exact absurd h2 de
  ·exact h.nM z m (by rw[hb,e])
theorem U7z1 {P:Prop} (h:P:=by
 go_wp2_with fail
 refine HE.out.mono ?_;rintro en w9 ⟨z,sts',rfl,h9⟩
 go_wp2_with fail
 go_ret
 exact⟨z,sts',rfl,h9⟩):P:=h
theorem sreach_any (w:World)(Fp:Nat->Prop)(q:Mq)(runes:Bool)(caps:Int)(hG:GOk runes caps (insL q.cd.hs))(mark rd:Int)(fv:Value)(sts:List Sta)(hmk:0<=mark/\mark<=1000000000)(hM:MaI w Fp q mark rd fv sts)
 (hC:∀w',KpP (fun b=>b=q.gm\/b=q.gM) w w'->CdAt w' q.gc q.cd) (hls:q.cd.ls.length=q.cd.hs.length)
 (F:Option Addr) (fc:Nat) (fs:List Nat) (hF:∀w',KpP (fun b=>b=q.gm\/b=q.gM) w w'->IL w' F fc (natsI fs)) (hfs:∀i∈fs,i<q.cd.hs.length) :
 Calls Tryz.prog 129 #[ptrV q.gm,.slice F fs.length fc] w (RetRe Fp q sts mark rd fv (stateG (insL q.cd.hs) fs) w):=by
 obtain⟨gb,gc,gS,gM,cd⟩:=q;obtain⟨bb,⟨ms,bm,hml,hms⟩,hSQ,hfm,hfM⟩:=hM
 simp only at bb bm hml hms hC hls hF hfs hG hfm hfM
 have hP:∀w',KpP (fun b=>b=gb\/b=gM) w w'->PL w' cd.A cd.c cd.hs:=fun w' k=>(hC w' k).pl;have HCD:=lh hC;obtain⟨hs,hhs⟩:∃hs,hs=cd.hs:=⟨_,rfl⟩
 rw[<-hhs] at bb hml hms hfs hG hls hP ⊢;have HHS:=lh hhs;have hPw:=hP w (KpP.refl _ _);have HSQ:=lh hSQ;have HFM:=lh (And.intro hfm hfM);clear hhs hSQ hC hfm hfM;have hfl:=(hF w (KpP.refl _ _)).len;rw[natsI_len] at hfl;have hgl:=hPw.len;have hn8:=hG.len;rw[insL_len] at hn8;have hbM:=blk_blk bb bm de;have q3:w.cell? ⟨gb,3,none⟩=some (.int .i64 mark):=bb.cell 3;have f3:=bb.frz 3;have hgbl:=bb.lt;have hgMl:=bm.lt;have hwm:IntKind.i64.wrap (mark+1)=mark+1:=wj;have BB:=Blk.new w 120 #[.pointer (some ⟨gb,0,none⟩)];have EB:=Ext.alloc w (.cells #[.pointer (some ⟨gb,0,none⟩)] 120);obtain⟨SG,hSG⟩:∃SG,Hid (stateG (insL hs) fs=SG):=⟨_,lh rfl⟩;rw[hSG.out];go_enter Tryz.func129,Tryz.ntmps129
 go_upto_region 1 with fail
 obtain⟨gB,hgB⟩:∃gB,gB=w.heap.size:=⟨_,rfl⟩
 rw[<-hgB] at BB ⊢;have hBb:gB≠gb:=om;have HGB:=lh hgB;clear hgB;generalize w.alloc (.cells #[.pointer (some ⟨gb,0,none⟩)] 120)=wa at *;replace q3:=EB.cell q3;have b1:=bb.ext EB;replace f3:=b1.frz 3;have q0:wa.cell? ⟨gB,0,none⟩=some (.pointer (some ⟨gb,0,none⟩)):=BB.cell 0
 go_upto_region 2 with fail
 have BB2:=BB.far (p:=⟨gb,3,none⟩) hBb (.int .i64 (mark+1));have b2:=b1.set 3 (.int .i64 (mark+1));have bm2:=(bm.ext EB).far (p:=⟨gb,3,none⟩) hbM.symm (.int .i64 (mark+1));have K2:KpP (fun b=>b=gb\/b=gM) w (wa.setCell ⟨gb,3,none⟩ (.int .i64 (mark+1))):=KpP.set (x:=⟨gb,3,none⟩) (KpP.of_ext EB) (.inl (.inl rfl)) _;generalize wa.setCell ⟨gb,3,none⟩ (.int .i64 (mark+1))=wb at *;have BL:=Blk.new wb 22 #[.slice none 0 0];have EL:=Ext.alloc wb (.cells #[.slice none 0 0] 22)
 go_upto_region 3 with fail
 obtain⟨gl,hgl2⟩:∃gl,gl=wb.heap.size:=⟨_,rfl⟩
 rw[<-hgl2] at BL ⊢;have hbase:gM<gl:=by have:=bm2.lt;omega
 have hlw:w.heap.size<=gl:=by have:=K2.size;omega
 have HGL:=lh hgl2;clear hgl2;generalize wb.alloc (.cells #[.slice none 0 0] 22)=wc at *;have BA:=Blk.new wc 240 #[.nilFunc];have EA:=Ext.alloc wc (.cells #[.nilFunc] 240)
 go_upto_region 4 with fail
 obtain⟨ga,hga⟩:∃ga,ga=wc.heap.size:=⟨_,rfl⟩
 rw[<-hga] at BA ⊢;have haw:w.heap.size<=ga:=by have:=K2.size;have:=EL.size;omega
 clear hga;generalize wc.alloc (.cells #[.nilFunc] 240)=wd at *;have za:wd.cell? ⟨ga,0,none⟩=some .nilFunc:=BA.cell 0;have fa:=BA.frz 0;have hst:(store ⟨ga,0,none⟩ (.func (.func 202) #[] #[.pointer (some ⟨gB,0,none⟩),.pointer (some ⟨gl,0,none⟩),.pointer (some ⟨ga,0,none⟩)])).run Tryz.prog wd=.ok () (wd.setCell ⟨ga,0,none⟩ (.func (.func 202) #[] #[.pointer (some ⟨gB,0,none⟩),.pointer (some ⟨gl,0,none⟩),.pointer (some ⟨ga,0,none⟩)])):=by
  rw[run_store Tryz.prog wd _ _ _ rfl,za];simp[fa]
 go_upto_region 5 with fail
 have HI0:Hid (RchI (wd.setCell ⟨ga,0,none⟩ (.func (.func 202) #[] #[.pointer (some ⟨gB,0,none⟩),.pointer (some ⟨gl,0,none⟩),.pointer (some ⟨ga,0,none⟩)])) w ⟨gl,gB,gl,ga,gb,gM⟩ gc gS hs.length (mark+1) rd fv ([],[])):=by
  have EE:=EL.trans EA;have d1:=blk_blk (BB2.ext EE) BA de;have d2:=blk_blk (BL.ext EA) BA de;have d3:=blk_blk (b2.ext EE) BA de;have d4:=blk_blk (bm2.ext EE) BA de;refine lh ⟨KpP.set (x:=⟨ga,0,none⟩) (K2.trans (KpP.of_ext EE)) (.inr haw) _,(BB2.ext EE).far d1 _,?_,⟨none,0,(BL.ext EA).far d2 _,OwnS.nil _ _ _ _⟩,?_,⟨ms,(bm2.ext EE).far d4 _,hml,fun i hi=>⟨⟨fun h=>?_,fun h=>by simp at h⟩,?_⟩⟩,hbase,hlw,Nat.le_refl _⟩
  ·have b:=BA.set 0 (.func (.func 202) #[] #[.pointer (some ⟨gB,0,none⟩),.pointer (some ⟨gl,0,none⟩),.pointer (some ⟨ga,0,none⟩)])
   simpa using b
  ·have b:=(b2.ext EE).far (p:=⟨ga,0,none⟩) d3 (.func (.func 202) #[] #[.pointer (some ⟨gB,0,none⟩),.pointer (some ⟨gl,0,none⟩),.pointer (some ⟨ga,0,none⟩)])
   simpa[stmC] using b
  ·have:=hms i hi;omega
  ·have:=hms i hi;omega
 have HK0:Hid (KpP (fun b=>b=gb\/b=gM) w (wd.setCell ⟨ga,0,none⟩ (.func (.func 202) #[] #[.pointer (some ⟨gB,0,none⟩),.pointer (some ⟨gl,0,none⟩),.pointer (some ⟨ga,0,none⟩)]))):=lh (KpP.set (x:=⟨ga,0,none⟩) (K2.trans (KpP.of_ext (EL.trans EA))) (.inr haw) _);generalize wd.setCell ⟨ga,0,none⟩ (.func (.func 202) #[] #[.pointer (some ⟨gB,0,none⟩),.pointer (some ⟨gl,0,none⟩),.pointer (some ⟨ga,0,none⟩)])=we at *;have HBW:=lh bb;have HMW:=lh bm;clear hst za fa BA EA BL EL BB2 b2 bm2 K2 b1 f3 q3 q0 BB EB bb bm;obtain⟨N,hN⟩:∃N,N=(insL hs).length+1:=⟨_,rfl⟩;have hNn:N=hs.length+1:=by rw[hN,insL_len]
 have HSP:=lh (state_prog (insL hs) fs)
 rw[<-hN] at HSP;clear hN;obtain⟨RES,hRES⟩:∃RES,Hid (listP (insL hs) N fs ([],[])=RES):=⟨_,lh rfl⟩;rw[hRES.out] at HSP;rw[hSG.out] at HSP;have HFIN:=fun(w':World) (s:List Nat×List Nat) (A:Option Addr) (c:Nat) (hI:RchI w' w ⟨gl,gB,gl,ga,gb,gM⟩ gc gS hs.length (mark+1) rd fv s) (hA:AddI hs.length s) (hr:RES=s) (hK:KpP (fun b=>b=gb\/b=gM) w w') (ol:OwnS w' gl 3 1 A s.1.length c ((natsI s.1).map (Value.int .i64)))=>
  lh (show Calls Tryz.prog 69 #[ptrV gb,.slice A s.1.length c] w' (RetRe Fp ⟨gb,gc,gS,gM,cd⟩ sts mark rd fv SG w) from by
   obtain⟨h1,h2,h3,_,h6,⟨ms',h7,h8,h8'⟩,h9,h10,h11⟩:=hI;have e:s.1=SG:=by rw[<-hr];exact HSP.out
   rw[e] at ol ⊢;have hO:OwnI w' gl 3 A c (natsI SG):=by unfold OwnI;rw[natsI_len];exact ol
   have hsn:∀q∈SG,q<hs.length:=fun q hq=>hA.lt q (by rw[e];exact hq);have hil:IL w' A c (natsI SG):=IL.of_own hO (fun x hx=>by
    obtain⟨q,hq,rfl⟩:=List.mem_map.1 hx;have:=hsn q hq;unfold I64;omega)
   have hcd:=HCD.out w' hK;rw[HHS.out] at hls hsn h6 hn8;have hlen:SG.length<=10000:=by
    have h12:=hA.len;have h13:=hA.ok.len;rw[e] at h12;rw[HHS.out] at h13;omega
   have hq:SqI w' Fp ⟨gb,gc,gS,gM,cd⟩ sts:=HSQ.out.keep' hK HBW.out HMW.out;have hne:A.map (·.block)≠some gM:=fun e=>by
    have:=OwnS.row ol _ e
    simp only at h9
    omega
   have hfr:∀b,A.map (·.block)=some b->gF Fp w w' b:=fun b hb=>.inr ⟨Nat.le_trans hlw (OwnS.row ol b hb),(OwnS.blt ol hb).1⟩;refine(sof_any w' (gF Fp w w') ⟨gb,gc,gS,gM,cd⟩ sts (mark+1) rd fv h6 hcd (hq.mono gF.sub) hls (by show cd.hs.length<=8192;omega) A c SG hil hlen hsn (fun b hb=>(OwnS.blt ol hb).2) hne hfr).mono ?_;rintro en w2 ⟨z,sts',he,hz,hzl,hst,hsq,hk⟩;have hsub:∀b,gF (gF Fp w w') w' w2 b->gF Fp w w2 b:=fun b hb=>by
    have:=hk.size;have:=hK.size;rcases hb with(hb|hb)|hb
    ·exact .inl hb
    ·exact .inr ⟨hb.1,om⟩
    ·exact .inr ⟨om,hb.2⟩
   have hgS1:gb≠gS:=(hq.map.ne h6).symm;have hgS2:gM≠gS:=(hq.map.ne h7).symm;refine⟨z,sts',he,hz,hzl,hst.imp id (fun h=>⟨h.1,h.2.2⟩),⟨hk.blk h6 hgS1,⟨ms',hk.blk h7 hgS2,by rw[h8,HHS.out],fun i hi=>(h8' i (by rw[HHS.out];exact hi)).2⟩,hsq.mono hsub,.inl HFM.out.1,.inl HFM.out.2⟩,?_⟩;refine KpP.trans (KpP.mono hK (fun i hi=>?_)) (KpP.mono hk (fun i hi=>.inr (.inr hi)));rcases hi with hi|hi
   ·exact .inl hi
   ·exact .inr (.inl hi))
 have HFS:=lh hfs;have HF:=lh hF;have eg:=egReach;have HADD:=fun(w':World) (s:List Nat×List Nat) (pc:Nat) (hI:RchI w' w ⟨gl,gB,gl,ga,gb,gM⟩ gc gS hs.length (mark+1) rd fv s) (hA:AddI hs.length s) (hp:pc<hs.length)=>lh (show Calls Tryz.prog 202 #[.int .i64 pc,.pointer (some ⟨gB,0,none⟩),.pointer (some ⟨gl,0,none⟩),.pointer (some ⟨ga,0,none⟩)] w' (RetAdd3 w ⟨gl,gB,gl,ga,gb,gM⟩ gc gS hs.length (mark+1) rd fv (addP (insL hs) N s pc) w') by
  have e:=HHS.out;subst e;exact reachC_any w gl gB gl ga gb gM gc gS cd runes caps hG HCD.out (mark+1) rd fv N w' s pc hI hA om hp)
 have HINV:=fun(s:List Nat×List Nat) (pc:Nat) (hA:AddI hs.length s)=>lh (show AddI hs.length (addP (insL hs) N s pc).1 by
  have h:=(addP_inv (G:=insL hs) N s pc (by rw[insL_len];exact hA)).1;rw[insL_len] at h;exact h)
 clear hG hP hfs hF HSP hPw
 go_upto_region 6 with fail
 go_loopw [19] (fun v wr=>∃(k:Nat) (s:List Nat×List Nat),v=.int .i64 k/\k<=fs.length/\Hid (RchI wr w ⟨gl,gB,gl,ga,gb,gM⟩ gc gS hs.length (mark+1) rd fv s)/\Hid (AddI hs.length s)/\Hid (listP (insL hs) N (fs.drop k) s=RES)/\Hid (KpP (fun b=>b=gb\/b=gM) w wr)) (fun v _=>fs.length-(intOf v).toNat)
 case atStart=>exact⟨0,([],[]),rfl,om,HI0,lh ⟨SeenOk.nil _,Nat.le_refl _,by simp⟩,hRES,HK0⟩
 case round=>
  obtain⟨k,s,rfl,hk,HI,HA,HL,HK⟩:=hrel;obtain⟨LA,lc,bl,ol⟩:=HI.out.bl;have HOL:=lh ol;have HBL:=lh bl;clear ol bl;by_cases hlt:k<fs.length
  ·have hkI:(k:Int)<fs.length:=om;have hkn:k<(natsI fs).length:=by rw[natsI_len];exact hlt
   obtain⟨fb,fo,hFA,cf⟩:=(HF.out wr HK.out).get hkn;have hFA':=hFA;subst hFA';have hnv:(natsI fs)[k]=(fs[k]:Int):=by simp[natsI]
   rw[hnv] at cf;have hx:=HFS.out _ (List.getElem_mem hlt);have hld:=lh (listP_done (G:=insL hs) (N:=N) (s:=s) hlt);generalize fs[k]=x at *;clear hnv hkn;have HC:=HADD wr s x HI.out HA.out hx;have HV:=HINV s x HA.out;have HRS:=HL.out;rw[hld.out] at HRS;obtain⟨r,hr⟩:∃r,Hid (addP (insL hs) N s x=r):=⟨_,lh rfl⟩;rw[hr.out] at HC HV HRS;obtain⟨s1,b1⟩:=r;have ca:wr.cell? ⟨ga,0,none⟩=some (.func (.func 202) #[] #[.pointer (some ⟨gB,0,none⟩),.pointer (some ⟨gl,0,none⟩),.pointer (some ⟨ga,0,none⟩)]):=HI.out.bA.cell 0;have HKC:=fun(w7:World) (k7:KpP (LsK ⟨gl,gB,gl,ga,gb,gM⟩ wr) wr w7)=>lh (KpP.chain HK.out k7 (fun i hi=>by
    rcases hi with hi|⟨hi,_⟩
    ·exact .inl (.inr hi)
    ·right
     simp only at hi
     omega))
   clear hld HL hr;by_cases hb:b1=true
   ·subst hb;have HR2:=lh (show listP (insL hs) N (fs.drop (k+1)) s1=RES by rw[<-HRS];rfl);clear HRS
    go_wp2_with (go_at_fn 202;refine HC.out.mono ?_;rintro e w7 ⟨rfl,h7,k7⟩)
    go_roundw
    case rel=>exact⟨k+1,s1,by go_num,om,lh h7,HV,HR2,HKC w7 k7⟩
    case measure=>simp[intOf];omega
   ·have hb2:b1=false:=by simpa using hb
    subst hb2;have HR2:=lh (show RES=s1 by rw[<-HRS];rfl);clear HRS
    go_upto_region 8 with fail
    go_upto_region 9 with fail
    refine HC.out.mono ?_;rintro e w7 ⟨rfl,h7,k7⟩;obtain⟨LA7,lc7,bl7,ol7⟩:=h7.bl;have cl7:w7.cell? ⟨gl,0,none⟩=some (.slice LA7 s1.1.length lc7):=bl7.cell 0;have HE:=HFIN w7 s1 LA7 lc7 h7 HV.out HR2.out (HKC w7 k7).out ol7;have cB7:w7.cell? ⟨gB,0,none⟩=some (.pointer (some ⟨gb,0,none⟩)):=h7.bB.cell 0;clear bl7 ol7 h7 k7 HC;exact U7z1
  ·have hkI:¬(k:Int)<fs.length:=om;obtain rfl:k=fs.length:=om;have HR2:Hid (RES=s):=lh (by
    have h9:=HL.out;rw[List.drop_length,listP] at h9;exact h9.symm)
   have cl:wr.cell? ⟨gl,0,none⟩=some (.slice LA s.1.length lc):=HBL.out.cell 0;have HE:=HFIN wr s LA lc HI.out HA.out HR2.out HK.out HOL.out;have cB7:wr.cell? ⟨gB,0,none⟩=some (.pointer (some ⟨gb,0,none⟩)):=HI.out.bB.cell 0;clear HL HADD HINV HFIN;exact U7z1
end
section
open Go.RowKit
def NoM (w:World)(p:Nat->Prop):Prop:=∀b,p b->∃cs T,w.heap[b]? = some (.cells cs T (0,0))/\T≠134/\T≠3/\T≠149
theorem noM_blk {w:World}{p:Nat->Prop}(hn:NoM w p){g T:Nat}{cs:Array Value}(hb:Blk w g T cs)(hT:T=134\/T=3\/T=149):¬p g:=fun hp=>by
 obtain⟨ds,U,h1,h2,h3,h4⟩:=hn g hp;unfold Blk at hb;rw[hb] at h1;injection h1 with h1
 injection h1 with _ h1
 subst h1;rcases hT with h|h|h
 ·exact h2 h
 ·exact h3 h
 ·exact h4 h
theorem noM_map {w:World}{p:Nat->Prop}(hn:NoM w p){α β:Type}{kv:α->Value}{vv:β->Value}{g:Nat}{l:List (α×β)}(hb:MapAt w g kv vv l):¬p g:=fun hp=>by
 obtain⟨ds,U,h1,_⟩:=hn g hp;exact hb.nI h1
theorem noM_row {w:World}{p:Nat->Prop}(hn:NoM w p){A:Option Addr}(ht:TyI w A):∀b,A.map (·.block)=some b->¬p b:=fun b hb=>by
 obtain⟨cur,hh⟩:=ht b hb;exact noM_blk hn hh (.inr (.inl rfl))
theorem MaI.kpT {w w':World}{F:Nat->Prop}{q:Mq}{mark rd:Int}{fv:Value}{sts:List Sta}{p:Nat->Prop}(h:MaI w F q mark rd fv sts)(k:KpP p w w')(hn:NoM w p):MaI w' F q mark rd fv sts:=by
 obtain⟨bm,⟨ms,bM,hl,hms⟩,sq,fm,fM⟩:=h;exact⟨k.blk bm (noM_blk hn bm (.inl rfl)),⟨ms,k.blk bM (noM_blk hn bM (.inr (.inl rfl))),hl,hms⟩,sq.keep k (noM_map hn sq.map) (fun z m=>⟨noM_blk hn (sq.at_ z m).blk (.inr (.inr rfl)),noM_map hn (sq.at_ z m).mp,noM_row hn (sq.at_ z m).ty⟩),fm,fM⟩
theorem MaI.ext {w w':World}{F:Nat->Prop}{q:Mq}{mark rd:Int}{fv:Value}{sts:List Sta}(h:MaI w F q mark rd fv sts)(x:Ext w w'):MaI w' F q mark rd fv sts:=
 h.kpT (p:=fun _=>False) (KpP.of_ext x) (fun _ h=>h.elim)
theorem SqI.upd {w w':World}{F:Nat->Prop}{q:Mq}{sts:List Sta}(h:SqI w F q sts)(f:Sta->Sta)(hf:∀y,(f y).b=y.b/\(f y).A=y.A/\(f y).c=y.c/\(f y).l=y.l/\(f y).gn=y.gn)(hm:MapAt w' q.gS Value.string ptrV (skey sts))
 (ha:∀y∈sts,StaAt w' q.cd (f y)) (hx:∀y∈sts,∀kb∈(f y).nx,∃u∈sts,u.b=kb.2/\∀x,clsX q.cd.cuts x=kb.1->nextG (insL q.cd.hs) y.l x=u.l):SqI w' F q (sts.map f):=by
 have hk:skey (sts.map f)=skey sts:=by
  unfold skey;rw[List.map_map];exact List.map_congr_left (fun y _=>by simp only[Function.comp,(hf y).1,(hf y).2.2.2.1])
 refine⟨by rw[hk];exact hm,fun z m=>?_,fun z m=>?_,fun y m x n e=>?_,fun z m=>?_,fun z m=>?_,fun z m=>?_,h.fS,fun z m=>?_⟩
 ·obtain⟨y,hy,rfl⟩:=List.mem_map.1 m;exact ha y hy
 ·obtain⟨y,hy,rfl⟩:=List.mem_map.1 m;intro kb hkb;obtain⟨u,hu,h1,h2⟩:=hx y hy kb hkb;exact⟨f u,List.mem_map.2 ⟨u,hu,rfl⟩,by rw[(hf u).1];exact h1,fun x hxx=>by rw[(hf u).2.2.2.1,(hf y).2.2.2.1];exact h2 x hxx⟩
 ·obtain⟨y,hy,rfl⟩:=List.mem_map.1 m;obtain⟨x,hx,rfl⟩:=List.mem_map.1 n
  rw[(hf y).1,(hf x).1,(hf y).2.2.2.2,(hf x).2.2.2.2,(hf y).2.2.2.1,(hf x).2.2.2.1] at e;rw[h.inj y hy x hx e]
 ·obtain⟨y,hy,rfl⟩:=List.mem_map.1 m
  rw[(hf y).2.1];exact h.nM y hy
 ·obtain⟨y,hy,rfl⟩:=List.mem_map.1 m
  rw[(hf y).2.2.2.1];exact h.lt y hy
 ·obtain⟨y,hy,rfl⟩:=List.mem_map.1 m
  rw[(hf y).2.2.2.1];exact h.sh y hy
 ·obtain⟨y,hy,rfl⟩:=List.mem_map.1 m
  rw[(hf y).1,(hf y).2.1,(hf y).2.2.2.2];exact h.fz y hy
def setZ (b:Nat)(rd sl:Int)(z:Sta):Sta:=if z.b=b then⟨z.b,z.A,z.c,z.l,z.gn,z.nx,rd,sl⟩ else z
theorem setZ_same (b:Nat)(rd sl:Int)(y:Sta):(setZ b rd sl y).b=y.b/\(setZ b rd sl y).A=y.A/\(setZ b rd sl y).c=y.c/\(setZ b rd sl y).l=y.l/\(setZ b rd sl y).gn=y.gn:=by
 unfold setZ;split<;>simp
theorem setZ_nx (b:Nat)(rd sl:Int)(y:Sta):(setZ b rd sl y).nx=y.nx:=by unfold setZ;split<;>rfl
theorem MaI.setZ {w w':World}{F:Nat->Prop}{q:Mq}{mark rd0:Int}{fv:Value}{sts:List Sta}(h:MaI w F q mark rd0 fv sts){z:Sta}(hz:z∈sts){rd sl:Int}(k:KpP (·=z.b) w w')(hb:Blk w' z.b 149 (staC q.cd ⟨z.b,z.A,z.c,z.l,z.gn,z.nx,rd,sl⟩)) :
 MaI w' F q mark rd0 fv (sts.map (setZ z.b rd sl)):=by
 obtain⟨bm,⟨ms,bM,hl,hms⟩,sq,fm,fM⟩:=h;have hzb:=(sq.at_ z hz).blk;refine⟨k.blk bm (blk_blk bm hzb de),⟨ms,k.blk bM (blk_blk bM hzb de),hl,hms⟩,sq.upd _ (setZ_same z.b rd sl) (sq.map.kp k (sq.map.ne hzb)) (fun y hy=>?_) (fun y hy kb hkb=>?_),fm,fM⟩
 ·have ay:=sq.at_ y hy;have h2:=ay.mp.ne hzb;have h3:∀b,y.A.map (·.block)=some b->b≠z.b:=fun b hb=>by
   obtain⟨cur,hh⟩:=ay.ty b hb;exact blk_blk hh hzb de
  by_cases e:y.b=z.b
  ·have:=sq.inj y hy z hz (.inl e);subst this;unfold Go.Proofs.YtmgpefenkilffaaGreat.setZ;rw[if_pos rfl];exact⟨hb,IL.kp ay.il k (fun _=>h3),fun b hb=>by
    obtain⟨cur,hh⟩:=ay.ty b hb;exact⟨cur,(k.block b (Array.getElem?_eq_some_iff.1 hh).1 (h3 b hb)).trans hh⟩,ay.mp.kp k h2⟩
  ·unfold Go.Proofs.YtmgpefenkilffaaGreat.setZ;rw[if_neg e];exact ay.kp k e h2 h3
 ·rw[setZ_nx] at hkb;exact sq.nx y hy kb hkb
end
section
open Go.RowKit
open Go.ChangeMaps (setBlock)
attribute [local go_sem ↓] Go.wp_at_zero Go.wp_at_succ
structure CdOk (cd:Cd):Prop where
 ls:cd.ls.length=cd.hs.length
 up:cd.cuts.Pairwise (· < ·)
 cuts:∀h∈cd.hs,∀s∈h.l,s.1∈cd.cuts/\s.2+1∈cd.cuts
 lead:∀i,i<cd.hs.length->cd.ls[i]? = some (leadG (insL cd.hs) cd.rn i)
 few:cd.cuts.length<=1000000
theorem clsX_le {cuts:List Int}{x y c:Int}(h:clsX cuts x=clsX cuts y)(hc:c∈cuts)(hx:c<=x):c<=y:=by
 refine Classical.byContradiction fun hn=>?_;have hyx:y<x:=om;have e:cuts.filter (fun c=>decide (c<=y))=(cuts.filter (fun c=>decide (c<=x))).filter (fun c=>decide (c<=y)):=by
  rw[List.filter_filter];refine List.filter_congr (fun a _=>?_);by_cases ha:a<=y
  ·have:a<=x:=om;simp[ha,this]
  ·simp[ha]
 have hl:(cuts.filter (fun c=>decide (c<=y))).length<(cuts.filter (fun c=>decide (c<=x))).length:=by
  rw[e,List.length_filter_lt_length_iff_exists];exact⟨c,List.mem_filter.2 ⟨hc,by simpa using hx⟩,by simpa using hn⟩
 unfold clsX at h;omega
theorem clsX_iff {cuts:List Int}{x y c:Int}(h:clsX cuts x=clsX cuts y)(hc:c∈cuts):c<=x<->c<=y:=⟨clsX_le h hc,clsX_le h.symm hc⟩
theorem CdOk.next {cd:Cd}(h:CdOk cd){x y:Int}(hc:clsX cd.cuts x=clsX cd.cuts y)(l:St):nextG (insL cd.hs) l x=nextG (insL cd.hs) l y:=by
 unfold nextG
 congr 2
 refine List.filter_congr (fun i _=>?_);unfold symAt
 cases hi:(insL cd.hs)[i]? with
 | none=>rfl
 | some a=>
  simp only
  congr 1
  have ha:=List.mem_of_getElem? hi;obtain⟨g,hg,rfl⟩:=List.mem_map.1 (show a∈cd.hs.map Hin.ins from ha)
  show has g.l x=has g.l y
  unfold has;rw[Bool.eq_iff_iff,List.any_eq_true,List.any_eq_true];have key:∀s∈g.l,(s.1<=x/\x<=s.2<->s.1<=y/\y<=s.2):=fun s hs=>by
   obtain⟨c1,c2⟩:=h.cuts g hg s hs;have h1:=clsX_iff hc c1;have h2:=clsX_iff hc c2;omega
  constructor
  ·rintro⟨s,hs,hh⟩;exact⟨s,hs,by simpa using(key s hs).1 (by simpa using hh)⟩
  ·rintro⟨s,hs,hh⟩;exact⟨s,hs,by simpa using(key s hs).2 (by simpa using hh)⟩
theorem cls_count:∀{zs:List Int},zs.Pairwise (· < ·)->∀x:Int,(zs.filter (fun c=>decide (c<=x))).length=zs.countP (·<x)+(if zs.contains x=true then 1 else 0)
 | [],_,_=>rfl
 | c::t,h,x=>by
  rw[List.pairwise_cons] at h;have ih:=cls_count h.2 x;rcases Int.lt_trichotomy c x with hc|hc|hc
  ·have e1:c<=x:=om;have e2:¬x=c:=om;have e3:(c::t).contains x=t.contains x:=by simp[List.contains_cons,e2]
   rw[List.filter_cons_of_pos (by simpa using e1),List.countP_cons_of_pos (by simpa using hc),e3,List.length_cons,ih];omega
  ·subst hc;have f0:t.filter (fun a=>decide (a<=c))=[]:=by
    rw[List.filter_eq_nil_iff];intro a ha;have:=h.1 a ha;simp;omega
   have c0:t.countP (·<c)=0:=by
    rw[List.countP_eq_zero];intro a ha;have:=h.1 a ha;simp;omega
   rw[List.filter_cons_of_pos si,f0,List.countP_cons_of_neg si,c0]
   simp
  ·have f0:t.filter (fun a=>decide (a<=x))=[]:=by
    rw[List.filter_eq_nil_iff];intro a ha;have:=h.1 a ha;simp;omega
   have c0:t.countP (·<x)=0:=by
    rw[List.countP_eq_zero];intro a ha;have:=h.1 a ha;simp;omega
   have n0:(c::t).contains x=false:=by
    rw[Bool.eq_false_iff];intro hh;rw[List.contains_iff_mem] at hh;rcases List.mem_cons.1 hh with e|e
    ·omega
    ·have:=h.1 x e;omega
   rw[List.filter_cons_of_neg (by simp;omega),f0,List.countP_cons_of_neg (by simp;omega),c0,n0]
   rfl
theorem sclass_any (gc:Nat)(cd:Cd)(x:Int)(w:World)(hc:CdAt w gc cd)(hu:cd.cuts.Pairwise (· < ·))(hn:cd.cuts.length<=1000000):Calls Tryz.prog 209 #[.pointer (some ⟨gc,0,none⟩),.int .i64 x] w (RetV (.int .i64 (clsX cd.cuts x)) w):=by
 have q2:w.cell? ⟨gc,2,none⟩=some (.slice cd.cA cd.cuts.length cd.cc):=hc.blk.cell 2;have hCL:=cls_count hu x;have hil:=hc.il;have HX:Hid (clsX cd.cuts x=(cd.cuts.countP (·<x):Nat)+(if cd.cuts.contains x=true then 1 else 0)):=lh (by
  unfold clsX;rw[hCL];split<;>simp)
 have hcl:cd.cuts.countP (·<x)<=1000000:=Nat.le_trans List.countP_le_length hn;have HB:∀w',Ext w w'->Hid (Calls Tryz.prog 263 #[.slice cd.cA cd.cuts.length cd.cc,.int .i64 x] w' fun e w2=>e=.returned (.tuple #[.int .i64 (cd.cuts.countP (·<x):Nat),.bool (cd.cuts.contains x)])/\Ext w' w2):=fun w' hx=>lh (by
  by_cases he:cd.cuts=[]
  ·rw[he];refine(Tryz.slices_BinarySearch_int_empty cd.cA cd.cc x w').mono ?_;rintro e w2 ⟨rfl,rfl⟩;exact⟨rfl,Ext.rfl' _⟩
  ·obtain⟨b,o,hA,hcell⟩:=hil.at_ he;rw[hA];have h:=Tryz.slices_BinarySearch_int b o cd.cuts.length cd.cc cd.cuts x w' (Nat.le_refl _) om (fun j hj=>by
    rw[hx.cell (hcell j hj)];simp[List.getD_eq_getElem?_getD,hj]) (by rw[List.take_length];exact hu.imp (fun h=>Int.le_of_lt h))
   rw[List.take_length] at h;refine h.mono ?_;rintro e w2 ⟨rfl,q,rfl⟩;exact⟨rfl,Ext.drewN _ _⟩)
 obtain⟨n,hnn⟩:∃n:Nat,n=cd.cuts.countP (·<x):=⟨_,rfl⟩
 rw[<-hnn] at HX HB hcl;clear hnn hCL hu;have hw:IntKind.i64.wrap ((n:Int)+1)=(n:Int)+1:=wj;have HBB:=HB w (Ext.rfl' _);clear HB hil;generalize cd.cuts.contains x=bb at *;generalize clsX cd.cuts x=cx at *;cases bb
 ·have e:cx=n:=by have:=HX.out;simpa using this
  subst e;clear HX;go_enter Tryz.func209,Tryz.ntmps209
  go_wp2_with fail
  refine HBB.out.mono ?_;rintro e w2 ⟨rfl,x2⟩
  go_wp2_with fail
  go_ret
  exact⟨rfl,x2⟩
 ·have e:cx=n+1:=by have:=HX.out;simpa using this
  subst e;clear HX;go_enter Tryz.func209,Tryz.ntmps209
  go_wp2_with fail
  refine HBB.out.mono ?_;rintro e w2 ⟨rfl,x2⟩
  go_wp2_with fail
  go_ret
  exact⟨by rw[<-hw];rfl,x2⟩
end
section
open Go.RowKit
attribute [local go_sem ↓] Go.wp_at_zero Go.wp_at_succ
theorem eqNum (a b c d e f:Int)(w:World):(Op.equalIn 10000 350 (.agg #[.int .i64 a,.int .i64 b,.int .i64 c]) (.agg #[.int .i64 d,.int .i64 e,.int .i64 f])).run Tryz.prog w=.ok (a == d&&b == e&&c == f) w:=by
 have u3:=Tryz.underlying3;have hS:Tryz.prog.underlying 350=some (.struct (Tryz.prog.fieldsOf 350)):=by kernel_rfl
 have hp:Tryz.prog.stoodInHeld 350=false:=by kernel_rfl
 rw[show(10000:Nat)=9999+1 from rfl,run_equalIn_agg w 9999 350 _ _ hS hp];simp only[Program.fieldsOf,Tryz.underlying350];go_simp;by_cases h1:a=d<;>by_cases h2:b=e<;>by_cases h3:c=f<;>simp[h1,h2,h3]
theorem eqNumT (a b c d e f:Int)(h:a=d/\b=e/\c=f):(a == d&&b == e&&c == f)=true:=by simp[h]
theorem eqNumF (a b c d e f:Int)(h:¬(a=d/\b=e/\c=f)):(a == d&&b == e&&c == f)=false:=by
 rw[Bool.eq_false_iff];intro hh;simp at hh;exact h ⟨hh.1.1,hh.1.2,hh.2⟩
theorem Y22z2 {P:Prop} (h:P:=by
 go_enter Tryz.func222,Tryz.ntmps222
 go_wp2_with fail
 go_ret
 exact⟨rfl,Ext.rfl' _⟩):P:=h
theorem target_any (w:World)(bx:Nat)(gA:Option Addr)(n gc:Nat)(hcap:n<=gc/\gc<=9223372036854775807)(hb:w.cell? ⟨bx,0,none⟩=some (.slice gA n gc))(x:Int) :
 Calls Tryz.prog 222 #[.int .i64 x,.pointer (some ⟨bx,0,none⟩)] w (RetV (.bool (decide (0<=x/\x<n))) w):=by
 by_cases h0:0<=x
 ·by_cases h1:x<n
  ·rw[decide_eq_true ⟨h0,h1⟩];exact Y22z2
  ·rw[decide_eq_false (fun h=>h1 h.2)];exact Y22z2
 ·rw[decide_eq_false (fun h=>h0 h.1)];exact Y22z2
theorem egTarget:∀args w,(callFunc 222 args).run Tryz.prog w=.ok (.enter 222 args) w:=enters_of Tryz.func222 kr rfl
theorem Y22z1 {P:Prop} (h:P:=by
 have j0:=kc0 k0;have j1:=kc0 k1;have j2:=kc0 k2;have j3:=kc0 k3;have j4:=kc0 k4;have ju0:=kc0 u0;have ju1:=kc0 u1;have ju2:=kc0 u2
 go_upto_region 24 with fail
 refine Xr.start [] kr ?_;refine Xtk 0 ?_;refine Xtn ?_
 iterate 13(first|refine Xtn ?_|refine Xsn ?_)
 iterate 2(refine Xtn ?_)
 iterate 15(first|refine Xtn ?_|refine Xsn ?_)
 iterate 2(refine Xtn ?_)
 refine Xdn fun w9 hE9 hK9=>?_;clear j0 j1 j2 j3 j4 ju0 ju1 ju2
 go_wp2_with fail
 go_ret
 exact⟨by rw[<-HRES.out];rfl,X1.trans hE9⟩):P:=h
theorem pv0_any (gA:Option Addr)(n gc:Nat)(hn:n<=gc/\gc<=9223372036854775807)(runes:Bool)(caps:Int)(hcaps:0<=caps/\caps<=9)(zx zy zn:Int)(A:Option Addr)(c:Nat)(zl:List Sp)(w:World)(hL:SL w A c zl)(pb q:Nat)
 (c0:w.cell? ⟨pb,q,none⟩=some (.int .i64 0)) (c1:w.cell? ⟨pb,q+1,none⟩=some (.int .i64 zx)) (c2:w.cell? ⟨pb,q+2,none⟩=some (.int .i64 zy)) (c3:w.cell? ⟨pb,q+3,none⟩=some (.int .i64 zn)) (c4:w.cell? ⟨pb,q+4,none⟩=some (.slice A zl.length c)) :
 Calls Tryz.prog 165 #[.agg #[.slice gA n gc,.int .i64 caps,.bool runes],.pointer (some ⟨pb,q,none⟩)] w (RetV (.bool (okB runes caps n ⟨0,zx,zy,zn,zl⟩)) w):=by
 have hlen:=hL.len;have BG0:=Blk.new w 35 #[.slice gA n gc,.int .i64 caps,.bool runes];have EG0:=Ext.alloc w (.cells #[.slice gA n gc,.int .i64 caps,.bool runes] 35);have BU:=Blk.new (w.alloc (.cells #[.slice gA n gc,.int .i64 caps,.bool runes] 35)) 350 #[.int .i64 0,.int .i64 0,.int .i64 0];have EU:=Ext.alloc (w.alloc (.cells #[.slice gA n gc,.int .i64 caps,.bool runes] 35)) (.cells #[.int .i64 0,.int .i64 0,.int .i64 0] 350);have BG:=BG0.ext EU;have X1:=EG0.trans EU;rw[World.size_alloc] at BU;obtain⟨res,hres⟩:∃res,Hid (okB runes caps n ⟨0,zx,zy,zn,zl⟩=res):=⟨_,lh rfl⟩;rw[hres.out];have eg:=egTarget;have HQ:=fun(a b c d e f:Int) (W:World)=>eqNum a b c d e f W;go_enter Tryz.func165,Tryz.ntmps165
 go_upto_region 4 with fail
 obtain⟨gx,hgx⟩:∃gx,gx=w.heap.size:=⟨_,rfl⟩
 rw[<-hgx] at BG BU ⊢;clear BG0;generalize (w.alloc (.cells #[.slice gA n gc,.int .i64 caps,.bool runes] 35)).alloc (.cells #[.int .i64 0,.int .i64 0,.int .i64 0] 350)=w1 at *;have hpg:pb<gx:=by have:=World.block_lt_of_cell? _ _ c0;simp only at this;omega
 have hgw:w.heap.size<=gx:=om;clear EG0 EU hgx;have k0:=X1.cell c0;have k1:=X1.cell c1;have k2:=X1.cell c2;have k3:=X1.cell c3;have k4:=X1.cell c4;have g0:w1.cell? ⟨gx,0,none⟩=some (.slice gA n gc):=BG.cell 0;have g1:w1.cell? ⟨gx,1,none⟩=some (.int .i64 caps):=BG.cell 1;have g2:w1.cell? ⟨gx,2,none⟩=some (.bool runes):=BG.cell 2;have u0:w1.cell? ⟨gx+1,0,none⟩=some (.int .i64 0):=BU.cell 0;have u1:w1.cell? ⟨gx+1,1,none⟩=some (.int .i64 0):=BU.cell 1;have u2:w1.cell? ⟨gx+1,2,none⟩=some (.int .i64 0):=BU.cell 2;clear c0 c1 c2 c3 c4;by_cases hs:zl=[]
 ·subst hs;by_cases hq:(zx=0/\zy=0/\zn=0)
  ·have HRES:Hid (res=true):=lh (by rw[<-hres.out];exact okB_t ⟨.inr rfl,.inr hq.2.1,.inr (.inr hq.1),.inr (.inr hq.2.2),.inl rfl⟩);have hqb:=eqNumT zx zy zn 0 0 0 hq;have HQ2:=fun(W:World)=>HQ zx zy zn 0 0 0 W;rw[hqb] at HQ2;clear HQ hq hqb;exact Y22z1
  ·have HRES:Hid (res=false):=lh (by rw[<-hres.out];exact okB_f (fun h=>hq (by have h1:=h.2.1;have h2:=h.2.2.1;have h3:=h.2.2.2.1;simp only at h1 h2 h3;omega)));have hqb:=eqNumF zx zy zn 0 0 0 hq;have HQ2:=fun(W:World)=>HQ zx zy zn 0 0 0 W;rw[hqb] at HQ2;clear HQ hq hqb;exact Y22z1
 ·have HRES:Hid (res=false):=lh (by rw[<-hres.out];exact okB_f (fun h=>h.1.elim (fun h1=>by first|exact absurd h1 de|(simp only at h1;omega)) hs));have hl0:((zl.length:Int) == 0)=false:=by rw[beq_eq_false_iff_ne];have:=List.length_pos_iff.2 hs;omega
  exact Y22z1
end
section
open Go.RowKit
structure Ru where
 sb:Nat
 l:St
 b:Nat
 p:Int
 e:Int
 A:Option Addr
 c:Nat
 k:Fo
def Ru.f (r:Ru):Fo:=grp r.b r.p r.e r.A r.c r.k
def Ru.its (r:Ru):List Itm:=(r.f.pos (-1)).map (fun x=>⟨x.1,r.l,x.2⟩)
def flatR (rs:List Ru):List Value:=rs.flatMap (fun r=>[.pointer (some ⟨r.sb,0,none⟩),.pointer (some ⟨r.b,0,none⟩)])
def fpR (rs:List Ru):List Nat:=rs.flatMap (fun r=>r.f.fp)
def itsR (rs:List Ru):List Itm:=rs.flatMap Ru.its
theorem flatR_app (a b:List Ru):flatR (a++b)=flatR a++flatR b:=by simp[flatR]
theorem fpR_app (a b:List Ru):fpR (a++b)=fpR a++fpR b:=by simp[fpR]
theorem itsR_app (a b:List Ru):itsR (a++b)=itsR a++itsR b:=by simp[itsR]
theorem fpR_cons (r:Ru)(b:List Ru):fpR (r::b)=r.f.fp++fpR b:=by simp[fpR]
theorem itsR_cons (r:Ru)(b:List Ru):itsR (r::b)=r.its++itsR b:=by simp[itsR]
theorem flatR_len (a:List Ru):(flatR a).length=a.length*2:=by
 induction a with
 | nil=>rfl
 | cons r a ih=>
  have e:flatR (r::a)=.pointer (some ⟨r.sb,0,none⟩)::.pointer (some ⟨r.b,0,none⟩)::flatR a:=by simp[flatR]
  rw[e];simp only[List.length_cons,ih];omega
theorem fpR_perm {a b:List Ru}(h:a.Perm b):(fpR a).Perm (fpR b):=h.flatMap_right _
theorem itsR_perm {a b:List Ru}(h:a.Perm b):(itsR a).Perm (itsR b):=h.flatMap_right _
theorem mem_fpR {x:Nat}{rs:List Ru}:x∈fpR rs<->∃r∈rs,x∈r.f.fp:=by simp[fpR]
theorem its_shut {D:St->Bool}{r:Ru}(h:D r.l=true):openI D r.its=[]/\shutI D r.its=r.its:=by
 unfold openI shutI Ru.its;constructor
 ·rw[List.filter_eq_nil_iff];intro x hx;obtain⟨y,_,rfl⟩:=List.mem_map.1 hx;simp[h]
 ·rw[List.filter_eq_self];intro x hx;obtain⟨y,_,rfl⟩:=List.mem_map.1 hx;simp[h]
theorem its_open {D:St->Bool}{r:Ru}(h:D r.l=false):openI D r.its=r.its/\shutI D r.its=[]:=by
 unfold openI shutI Ru.its;constructor
 ·rw[List.filter_eq_self];intro x hx;obtain⟨y,_,rfl⟩:=List.mem_map.1 hx;simp[h]
 ·rw[List.filter_eq_nil_iff];intro x hx;obtain⟨y,_,rfl⟩:=List.mem_map.1 hx;simp[h]
theorem its_res (r:Ru):resOf r.its=resP (r.f.pos (-1)):=by
 unfold resOf Ru.its resP;induction r.f.pos (-1) with
 | nil=>rfl
 | cons x t ih=>
  rw[List.map_cons,List.filterMap_cons,List.filter_cons,ih];by_cases h:0<=x.2<;>simp[h]
theorem shutI_app (D:St->Bool)(I J:List Itm):shutI D (I++J)=shutI D I++shutI D J:=by simp[shutI]
theorem itsR_one (pr:List Ru)(r:Ru):itsR (pr++[r])=itsR pr++r.its:=by rw[itsR_app,itsR_cons];simp[itsR]
structure Av where
 gs:Nat
 gr:Nat
 z1:Nat
 z2:Nat
 q:Mq
 N:Int
 bg:Bool
 cl:Bool
 op0:Int
 mark:Int
 rd:Int
 fv:Value
 A0:Option Addr
 R0:List (Int×Int)
 LA:Option Addr
 lc:Nat
 lrs:List Ru
 sts0:List Sta
 F:Nat->Prop
 w0:World
def Av.D (P:Av)(l:St):Bool:=decL P.q.cd.ls l
def Av.G (P:Av):List Ins:=insL P.q.cd.hs
def AvF (P:Av)(b:Nat):Prop:=b=P.gs\/b=P.gr\/P.A0.map (·.block)=some b\/(∃z∈P.sts0,z.b=b)\/b∈fpR P.lrs
def zkey (z:Sta):Nat×Option Addr×Nat×St×Nat×List (Int×Nat):=(z.b,z.A,z.c,z.l,z.gn,z.nx)
def Av.hs (P:Av)(RA:Option Addr)(n rc:Nat):Hst:=⟨P.q.gm,RA,n,rc,P.N,P.bg,P.cl⟩
structure AvI (P:Av)(w:World)(sts:List Sta)(RA:Option Addr)(rc:Nat)(rs rest pr:List Ru):Prop where
 hl:P.lrs=pr++rest
 b1:Blk w P.z1 29 #[.pointer (some ⟨P.gs,0,none⟩)]
 b2:Blk w P.z2 142 #[.pointer (some ⟨P.gr,0,none⟩)]
 st:Blk w P.gs 126 (strC (P.hs RA rs.length rc) (P.op0-(shutI P.D (itsR pr)).length))
 ow:OwnS w 0 140 2 RA rs.length rc (flatR rs)
 rb:∀b,RA.map (·.block)=some b->P.w0.heap.size<=b
 lw:OwnS w 0 140 2 P.LA P.lrs.length P.lc (flatR P.lrs)
 lb:∀b,P.LA.map (·.block)=some b->b<P.w0.heap.size
 res:∃A c,RsAt w P.gr A c (P.R0++resI P.D (itsR pr))/\(A.map (·.block)=P.A0.map (·.block)\/∀b,A.map (·.block)=some b->P.w0.heap.size<=b)
 ma:MaI w P.F P.q P.mark P.rd P.fv sts
 ss:sts.map zkey=P.sts0.map zkey
 sl:∀z∈sts,z.rd<=P.rd/\(z.rd=P.rd->∃r,0<=z.sl/\rs[z.sl.toNat]? = some r/\r.sb=z.b)
 rr:∀(i:Nat) r,rs[i]? = some r->∃z∈sts,z.b=r.sb/\z.l=r.l/\z.rd=P.rd/\z.sl=i
 re:∀r∈rest,∃z∈sts,z.b=r.sb/\z.l=r.l
 gt:∀r∈rs++rest,r.f.At w
 nd:(fpR (rs++rest)).Nodup
 fr:∀x∈fpR (rs++rest),P.F x
 fb:∀x∈fpR (rs++rest),x∈fpR P.lrs\/P.w0.heap.size<=x
 it:(itsR rs).Perm (openI P.D (itsR pr))
 nl:∀r∈rs,P.D r.l=false
 dn:∀r∈rs++rest,doneG P.G r.l=true->∀x∈r.f.pos (-1),x.2=P.N
 kp:KpP (AvF P) P.w0 w
variable {P:Av} {w w':World} {sts:List Sta} {RA:Option Addr} {rc:Nat} {rs rest pr:List Ru}
theorem AvI.ext (h:AvI P w sts RA rc rs rest pr)(x:Ext w w'):AvI P w' sts RA rc rs rest pr:=by
 obtain⟨hl,b1,b2,st,ow,rb,lw,lb,⟨A,c,hr,ha⟩,ma,ss,sl,rr,re,gt,nd,fr,fb,it,nl,dn,kp⟩:=h;exact⟨hl,b1.ext x,b2.ext x,st.ext x,OwnS.ext ow x,rb,OwnS.ext lw x,lb,⟨A,c,⟨hr.1.ext x,OwnS.ext hr.2 x⟩,ha⟩,ma.ext x,ss,sl,rr,re,fun r hr=>(gt r hr).ext x,nd,fr,fb,it,nl,dn,kp.trans (KpP.of_ext x)⟩
theorem rsF_ne {gs gr:Nat}{h:Hst}{op:Int}{A:Option Addr}{c:Nat}{R:List (Int×Int)}(st:Blk w gs 126 (strC h op))(rs:RsAt w gr A c R){g T:Nat}{cs:Array Value}(hb:Blk w g T cs)(h1:T≠126)(h2:T≠37)(h3:T≠54):¬RsF gs gr A g:=fun e=>by
 rcases e with rfl|rfl|e
 ·exact blk_blk hb st h1 rfl
 ·exact blk_blk hb rs.1 h2 rfl
 ·exact own_blk rs.2 hb h3.symm e
theorem rsF_noM {gs gr:Nat}{h:Hst}{op:Int}{A:Option Addr}{c:Nat}{R:List (Int×Int)}(st:Blk w gs 126 (strC h op))(rs:RsAt w gr A c R):NoM w (RsF gs gr A):=by
 intro b hb;rcases hb with rfl|rfl|hb
 ·exact⟨_,_,st,by decide,by decide,by decide⟩
 ·exact⟨_,_,rs.1,by decide,by decide,by decide⟩
 ·obtain⟨_,cur,hh⟩:=OwnS.blt rs.2 hb;exact⟨_,_,hh,by decide,by decide,by decide⟩
theorem own_noF {p:Nat->Prop}{base e size n c:Nat}{A:Option Addr}{xs:List Value}(ow:OwnS w base e size A n c xs)(hp:∀b,p b->∀cs,w.heap[b]?≠some (.cells cs e (0,0))):∀b,A.map (·.block)=some b->¬p b:=fun b hb h=>by
 obtain⟨_,cur,hh⟩:=OwnS.blt ow hb;exact hp b h cur hh
theorem AvI.dec {r:Ru}(h:AvI P w sts RA rc rs (r::rest) pr)(hd:P.D r.l=true){A:Option Addr}{c:Nat}(hr:RsAt w P.gr A c (P.R0++resI P.D (itsR pr)))(ha:A.map (·.block)=P.A0.map (·.block)\/∀b,A.map (·.block)=some b->P.w0.heap.size<=b)
 (ho:RsO w w' P.gs P.gr (P.hs RA rs.length rc) (P.op0-(shutI P.D (itsR pr)).length) A (P.R0++resI P.D (itsR pr)) (r.f.pos (-1))):AvI P w' sts RA rc rs rest (pr++[r]):=by
 obtain⟨hl,b1,b2,st,ow,rb,lw,lb,_,ma,ss,sl,rr,re,gt,nd,fr,fb,it,nl,dn,kp⟩:=h;obtain⟨st',⟨A',c',hr',ha'⟩,k⟩:=ho;have hsub:∀x∈fpR (rs++rest),x∈fpR (rs++r::rest):=fun x hx=>by
  obtain⟨y,hy,hxy⟩:=mem_fpR.1 hx;refine mem_fpR.2 ⟨y,?_,hxy⟩;rcases List.mem_append.1 hy with hy|hy<;>simp[hy]
 have hmem:∀y∈rs++rest,y∈rs++r::rest:=fun y hy=>by
  rcases List.mem_append.1 hy with hy|hy<;>simp[hy]
 have⟨o1,o2⟩:=its_shut (D:=P.D) hd;have hrun:∀b,RsF P.gs P.gr A b->∀cs,w.heap[b]?≠some (.cells cs 140 (0,0)):=fun b hb cs e=>rsF_ne st hr e de de de hb;refine⟨by rw[hl,List.append_assoc];rfl,k.blk b1 (rsF_ne st hr b1 de de de),k.blk b2 (rsF_ne st hr b2 de de de),?_,OwnS.kp ow k (own_noF ow hrun),rb,OwnS.kp lw k (own_noF lw hrun),lb,⟨A',c',?_,?_⟩,ma.kpT k (rsF_noM st hr),ss,sl,rr,fun y hy=>re y (by simp[hy]),fun y hy=>Fo.At.kpT k (rsF_noG st hr) (gt y (hmem y hy)),?_,fun x hx=>fr x (hsub x hx),fun x hx=>fb x (hsub x hx),?_,nl,fun y hy=>dn y (hmem y hy),?_⟩
 ·have e:P.op0-((shutI P.D (itsR (pr++[r]))).length:Int)=P.op0-((shutI P.D (itsR pr)).length:Int)-((r.f.pos (-1)).length:Int):=by
   rw[itsR_one,shutI_app,o2,List.length_append];have:r.its.length=(r.f.pos (-1)).length:=by simp[Ru.its]
   rw[this];omega
  rw[e];exact st'
 ·rw[itsR_one,resI_append];have:resI P.D r.its=resP (r.f.pos (-1)):=by unfold resI;rw[o2,its_res]
  rw[this,<-List.append_assoc];exact hr'
 ·rcases ha' with e|e
  ·rw[e];exact ha
  ·exact .inr (fun b hb=>Nat.le_trans kp.size (e b hb))
 ·refine List.Nodup.sublist ?_ nd;rw[fpR_app,fpR_app,fpR_cons];exact(List.Sublist.refl _).append (List.sublist_append_right _ _)
 ·rw[itsR_one,openI_append,o1,List.append_nil];exact it
 ·refine kp.chain k (fun i hi=>?_);rcases hi with rfl|rfl|hi
  ·exact .inl (.inl rfl)
  ·exact .inl (.inr (.inl rfl))
  ·rcases ha with e|e
   ·exact .inl (.inr (.inr (.inl (by rw[<-e];exact hi))))
   ·exact .inr (e i hi)
theorem zkey_setZ (b:Nat)(rd sl:Int)(sts:List Sta):(sts.map (setZ b rd sl)).map zkey=sts.map zkey:=by
 rw[List.map_map];refine List.map_congr_left (fun y _=>?_);have h:=setZ_same b rd sl y;have h2:=setZ_nx b rd sl y;simp only[Function.comp,zkey,h.1,h.2.1,h.2.2.1,h.2.2.2.1,h.2.2.2.2,h2]
theorem AvI.new {r:Ru}{z:Sta}(h:AvI P w sts RA rc rs (r::rest) pr)(hz:z∈sts)(hzb:z.b=r.sb)(hzl:z.l=r.l)(hzr:z.rd≠P.rd)(hd:P.D r.l=false){w2 w3:World}(k2:KpP (·=z.b) w w2)
 (B2:Blk w2 z.b 149 (staC P.q.cd ⟨z.b,z.A,z.c,z.l,z.gn,z.nx,P.rd,rs.length⟩)) {RA':Option Addr} {rc':Nat} (k3:KpP (fun b=>b=P.gs\/RA.map (·.block)=some b) w2 w3)
 (st3:Blk w3 P.gs 126 (strC (P.hs RA' (rs.length+1) rc') (P.op0-(shutI P.D (itsR pr)).length))) (ow3:OwnS w3 0 140 2 RA' (rs.length+1) rc' (flatR rs++[.pointer (some ⟨r.sb,0,none⟩),.pointer (some ⟨r.b,0,none⟩)]))
 (hat:RA'.map (·.block)=RA.map (·.block)\/∀b,RA'.map (·.block)=some b->w2.heap.size<=b):AvI P w3 (sts.map (setZ z.b P.rd rs.length)) RA' rc' (rs++[r]) rest (pr++[r]):=by
 obtain⟨hl,b1,b2,st,ow,rb,lw,lb,⟨A,c,hr,ha⟩,ma,ss,sl,rr,re,gt,nd,fr,fb,it,nl,dn,kp⟩:=h;have hzB:=(ma.sq.at_ z hz).blk;have⟨o1,o2⟩:=its_open (D:=P.D) hd;have eL:(rs++[r])++rest=rs++r::rest:=by simp
 have hlen:(rs++[r]).length=rs.length+1:=by simp
 have ne2:∀{T cs g},Blk w g T cs->T≠149->g≠z.b:=fun hb hT=>blk_blk hb hzB hT;have own2:∀{base e size n c A xs},OwnS w base e size A n c xs->e≠149->∀b,Option.map (fun a:Addr=>a.block) A=some b->¬b=z.b:=fun ho hT b hb e=>own_blk ho hzB hT (by rw[hb,e]);have st2:=k2.blk st (ne2 st de);have ow2:=OwnS.kp ow k2 (own2 ow de);have lw2:=OwnS.kp lw k2 (own2 lw de);have hr2:=k2.blk hr.1 (ne2 hr.1 de);have hq2:=OwnS.kp hr.2 k2 (own2 hr.2 de);have ma2:=ma.setZ hz k2 B2;have ne3:∀{T cs g},Blk w2 g T cs->T≠126->T≠140->¬(g=P.gs\/RA.map (·.block)=some g):=fun hb h1 h2 e=>by
  rcases e with e|e
  ·exact blk_blk hb st2 h1 e
  ·exact own_blk ow2 hb h2.symm e
 have gN:NoG w (·=z.b):=fun b hb cs=>by
  have hb':b=z.b:=hb;subst hb';exact⟨fun e=>blk_blk e hzB de rfl,fun e=>blk_blk e hzB de rfl⟩
 have gN3:NoG w2 (fun b=>b=P.gs\/RA.map (·.block)=some b):=fun b hb cs=>⟨fun e=>ne3 e de de hb,fun e=>ne3 e de de hb⟩;have mN3:NoM w2 (fun b=>b=P.gs\/RA.map (·.block)=some b):=fun b hb=>by
  rcases hb with rfl|hb
  ·exact⟨_,_,st2,by decide,by decide,by decide⟩
  ·obtain⟨_,cur,hh⟩:=OwnS.blt ow2 hb;exact⟨_,_,hh,by decide,by decide,by decide⟩
 have hzu:∀y∈sts,y.b=z.b->y=z:=fun y hy e=>ma.sq.inj y hy z hz (.inl e);refine⟨by rw[hl,List.append_assoc];rfl,k3.blk (k2.blk b1 (ne2 b1 de)) (ne3 (k2.blk b1 (ne2 b1 de)) de de),k3.blk (k2.blk b2 (ne2 b2 de)) (ne3 (k2.blk b2 (ne2 b2 de)) de de),?_,?_,?_,OwnS.kp lw2 k3 (fun b hb e=>?_),lb,⟨A,c,?_,?_⟩,ma2.kpT k3 mN3,by rw[zkey_setZ];exact ss,?_,?_,?_,?_,by rw[eL];exact nd,by rw[eL];exact fr,by rw[eL];exact fb,?_,?_,by rw[eL];exact dn,?_⟩
 ·rw[hlen,itsR_one,shutI_app,o2,List.append_nil];exact st3
 ·rw[hlen,flatR_app];exact ow3
 ·intro b hb;rcases hat with e|e
  ·exact rb b (by rw[<-e];exact hb)
  ·have:=e b hb;have:=kp.size;have:=k2.size;omega
 ·rcases e with e|e
  ·exact own_blk lw2 st2 de (by rw[hb,e])
  ·have:=lb b hb;have:=rb b e;omega
 ·rw[itsR_one,resI_append];have e:resI P.D r.its=[]:=by unfold resI;rw[o2];rfl
  rw[e,List.append_nil];exact⟨k3.blk hr2 (ne3 hr2 de de),OwnS.kp hq2 k3 (fun b hb e=>by
   rcases e with e|e
   ·exact own_blk hq2 st2 de (by rw[hb,e])
   ·obtain⟨_,cur,hh⟩:=OwnS.blt ow2 e;exact own_blk hq2 hh de hb)⟩
 ·exact ha
 ·intro y' hy';obtain⟨y,hy,rfl⟩:=List.mem_map.1 hy';by_cases e:y.b=z.b
  ·have:=hzu y hy e;subst this;have e1:setZ y.b P.rd rs.length y=⟨y.b,y.A,y.c,y.l,y.gn,y.nx,P.rd,rs.length⟩:=by unfold setZ;rw[if_pos rfl]
   rw[e1];exact⟨Int.le_refl _,fun _=>⟨r,by simp,by simp,hzb.symm⟩⟩
  ·have e1:setZ z.b P.rd rs.length y=y:=by unfold setZ;rw[if_neg e]
   rw[e1];refine⟨(sl y hy).1,fun h9=>?_⟩;obtain⟨r0,h1,h2,h3⟩:=(sl y hy).2 h9;exact⟨r0,h1,by rw[List.getElem?_append_left (List.getElem?_eq_some_iff.1 h2).1];exact h2,h3⟩
 ·intro i r0 hi;by_cases hlt:i<rs.length
  ·rw[List.getElem?_append_left hlt] at hi;obtain⟨y,hy,h1,h2,h3,h4⟩:=rr i r0 hi;have e:¬y.b=z.b:=fun e=>by
    have:=hzu y hy e;subst this;exact hzr h3
   have e1:setZ z.b P.rd rs.length y=y:=by unfold setZ;rw[if_neg e]
   exact⟨y,List.mem_map.2 ⟨y,hy,e1⟩,h1,h2,h3,h4⟩
  ·have hi2:i=rs.length:=by
    have:=(List.getElem?_eq_some_iff.1 hi).1;simp at this;omega
   subst hi2;have hr0:r0=r:=by simpa using hi.symm
   subst hr0;refine⟨setZ z.b P.rd rs.length z,List.mem_map.2 ⟨z,hz,rfl⟩,?_⟩;have e1:setZ z.b P.rd rs.length z=⟨z.b,z.A,z.c,z.l,z.gn,z.nx,P.rd,rs.length⟩:=by unfold setZ;rw[if_pos rfl]
   rw[e1];exact⟨hzb,hzl,rfl,rfl⟩
 ·intro y hy;obtain⟨u,hu,h1,h2⟩:=re y (by simp[hy]);have h3:=setZ_same z.b P.rd rs.length u;exact⟨_,List.mem_map.2 ⟨u,hu,rfl⟩,by rw[h3.1];exact h1,by rw[h3.2.2.2.1];exact h2⟩
 ·rw[eL];intro y hy;exact Fo.At.kpT k3 gN3 (Fo.At.kpT k2 gN (gt y hy))
 ·rw[itsR_one,itsR_one,openI_append,o1];exact it.append_right _
 ·intro y hy;rcases List.mem_append.1 hy with hy|hy
  ·exact nl y hy
  ·rw[List.mem_singleton.1 hy];exact hd
 ·refine(kp.chain k2 (fun i hi=>?_)).chain k3 (fun i hi=>?_)
  ·have:zkey z∈P.sts0.map zkey:=by rw[<-ss];exact List.mem_map.2 ⟨z,hz,rfl⟩
   obtain⟨z0,h0,h1⟩:=List.mem_map.1 this;exact .inl (.inr (.inr (.inr (.inl ⟨z0,h0,by rw[show i=z.b from hi];exact congrArg Prod.fst h1⟩))))
  ·rcases hi with rfl|hi
   ·exact .inl (.inl rfl)
   ·exact .inr (rb i hi)
theorem Fo.At.ty {w:World}:∀{f:Fo},f.At w->∀b∈f.fp,∃cs T,w.heap[b]? = some (.cells cs T (0,0))/\(T=250\/T=138)
 | .nil,_,b,hb=>by simp[Fo.fp] at hb
 | .cons g _ _ A _ k r,⟨h1,h2,_,_,_,_,_,h8,h9⟩,b,hb=>by
  simp only[Fo.fp,List.mem_cons,List.mem_append,mem_blkL] at hb;rcases hb with rfl|hb|hb|hb
  ·exact⟨_,_,h1,.inl rfl⟩
  ·obtain⟨_,cur,hh⟩:=OwnS.blt h2 hb;exact⟨_,_,hh,.inr rfl⟩
  ·exact h8.ty b hb
  ·exact h9.ty b hb
theorem AvI.unite {r r' r2:Ru}{xs ys:List Ru}(h:AvI P w sts RA rc rs (r::rest) pr)(hnb:∀b,P.w0.heap.size<=b->P.F b)(hrs:rs=xs++r'::ys)(hrl:r'.l=r.l)(hd:P.D r.l=false){w2 w3:World}{b':Nat}{p' e':Int}{A':Option Addr}{c':Nat}{k':Fo}
 (hu:UnOk w w2 r'.f r.f (grp b' p' e' A' c' k')) (hr2:r2=⟨r'.sb,r'.l,b',p',e',A',c',k'⟩) (k3:KpP (fun b=>RA.map (·.block)=some b) w2 w3) (ow3:OwnS w3 0 140 2 RA rs.length rc (flatR (xs++r2::ys))) :
 AvI P w3 sts RA rc (xs++r2::ys) rest (pr++[r]):=by
 obtain⟨hl,b1,b2,st,ow,rb,lw,lb,⟨A,c,hr,ha⟩,ma,ss,sl,rr,re,gt,nd,fr,fb,it,nl,dn,kp⟩:=h;subst hrs;have hf2:r2.f=grp b' p' e' A' c' k':=by rw[hr2];rfl
 rw[<-hf2] at hu;have⟨o1,o2⟩:=its_open (D:=P.D) hd;have p1:((xs++r'::ys)++r::rest).Perm (r'::r::(xs++ys++rest)):=by
  have e1:((xs++r'::ys)++r::rest).Perm (r::((xs++r'::ys)++rest)):=List.perm_middle;have e2:((xs++r'::ys)++rest).Perm (r'::(xs++ys++rest)):=by
   have:(xs++r'::ys)++rest=xs++r'::(ys++rest):=by simp
   rw[this,List.append_assoc xs ys rest];exact List.perm_middle
  exact e1.trans ((e2.cons r).trans (List.Perm.swap _ _ _))
 have p2:((xs++r2::ys)++rest).Perm (r2::(xs++ys++rest)):=by
  have:(xs++r2::ys)++rest=xs++r2::(ys++rest):=by simp
  rw[this,List.append_assoc xs ys rest];exact List.perm_middle
 have m':r'∈(xs++r'::ys)++r::rest:=by simp
 have mr:r∈(xs++r'::ys)++r::rest:=by simp
 have mX:∀y∈xs++ys++rest,y∈(xs++r'::ys)++r::rest:=fun y hy=>p1.mem_iff.2 (List.mem_cons_of_mem _ (List.mem_cons_of_mem _ hy));have nd1:(r'.f.fp++(r.f.fp++fpR (xs++ys++rest))).Nodup:=by
  have:=(fpR_perm p1).nodup_iff.1 nd
  rwa [fpR_cons,fpR_cons] at this
 rw[<-List.append_assoc] at nd1;have nd2:=List.nodup_append.1 nd1;have hty:∀b∈r'.f.fp++r.f.fp,∃cs T,w.heap[b]? = some (.cells cs T (0,0))/\(T=250\/T=138):=fun b hb=>by
  rcases List.mem_append.1 hb with hb|hb
  ·exact(gt r' m').ty b hb
  ·exact(gt r mr).ty b hb
 have ne:∀{T cs g},Blk w g T cs->T≠250->T≠138->¬g∈r'.f.fp++r.f.fp:=fun{T cs g} hb h1 h2 hg=>by
  obtain⟨ds,U,hh,hU⟩:=hty g hg;unfold Blk at hb;rw[hb] at hh;injection hh with hh;injection hh with _ hh
  subst hh;rcases hU with hU|hU
  ·exact h1 hU
  ·exact h2 hU
 have own:∀{base e size n c A xs},OwnS w base e size A n c xs->e≠250->e≠138->∀b,Option.map (fun a:Addr=>a.block) A=some b->¬b∈r'.f.fp++r.f.fp:=fun ho h1 h2 b hb=>by
  obtain⟨_,cur,hh⟩:=OwnS.blt ho hb;exact ne (show Blk w b _ cur from hh) h1 h2
 have k:=hu.kp;have hmN:NoM w (fun x=>x∈r'.f.fp++r.f.fp):=fun b hb=>by
  obtain⟨cs,T,hh,hT⟩:=hty b hb;refine⟨cs,T,hh,?_⟩;rcases hT with rfl|rfl<;>exact⟨by decide,by decide,by decide⟩
 have st2:=k.blk st (ne st de de);have ow2:=OwnS.kp ow k (own ow de de);have lw2:=OwnS.kp lw k (own lw de de);have hr1:=k.blk hr.1 (ne hr.1 de de);have hq2:=OwnS.kp hr.2 k (own hr.2 de de);have b12:=k.blk b1 (ne b1 de de);have b22:=k.blk b2 (ne b2 de de);have ne3:∀{T cs g},Blk w2 g T cs->T≠140->¬(RA.map (·.block)=some g):=fun hb h2 e=>own_blk ow2 hb h2.symm e;have gN3:NoG w2 (fun b=>RA.map (·.block)=some b):=fun b hb cs=>⟨fun e=>ne3 e de hb,fun e=>ne3 e de hb⟩;have mN3:NoM w2 (fun b=>RA.map (·.block)=some b):=fun b hb=>by
  obtain⟨_,cur,hh⟩:=OwnS.blt ow2 hb;exact⟨_,_,hh,by decide,by decide,by decide⟩
 have hlen:(xs++r2::ys).length=(xs++r'::ys).length:=by simp
 have hsb:r2.sb=r'.sb:=by rw[hr2]
 have hll:r2.l=r'.l:=by rw[hr2]
 have hget:∀(j:Nat) (r0:Ru),(xs++r2::ys)[j]? = some r0->∃r1,(xs++r'::ys)[j]? = some r1/\r1.sb=r0.sb/\r1.l=r0.l:=fun j r0 hj=>by
  rcases Nat.lt_trichotomy j xs.length with hlt|heq|hgt
  ·rw[List.getElem?_append_left hlt] at hj;exact⟨r0,by rw[List.getElem?_append_left hlt];exact hj,rfl,rfl⟩
  ·subst heq;have:r0=r2:=by simpa using hj.symm
   subst this;exact⟨r',by simp,hsb.symm,hll.symm⟩
  ·obtain⟨m,hm⟩:∃m,j-xs.length=m+1:=⟨j-xs.length-1,om⟩;rw[List.getElem?_append_right om,hm,List.getElem?_cons_succ] at hj;exact⟨r0,by rw[List.getElem?_append_right om,hm,List.getElem?_cons_succ];exact hj,rfl,rfl⟩
 have hget2:∀(j:Nat) (r0:Ru),(xs++r'::ys)[j]? = some r0->∃r1,(xs++r2::ys)[j]? = some r1/\r1.sb=r0.sb:=fun j r0 hj=>by
  have hjl:=(List.getElem?_eq_some_iff.1 hj).1
  rw[<-hlen] at hjl;obtain⟨r1,h1,h2,_⟩:=hget j _ (List.getElem?_eq_getElem hjl);rw[hj] at h1;injection h1 with h1;subst h1
  exact⟨_,List.getElem?_eq_getElem hjl,h2.symm⟩
 have its2:r2.its.Perm (r'.its++r.its):=by
  unfold Ru.its;rw[hll,<-hrl,<-List.map_append];exact hu.pos.map _
 have mL:∀y∈(xs++r2::ys)++rest,y=r2\/y∈xs++ys++rest:=fun y hy=>List.mem_cons.1 (p2.mem_iff.1 hy);refine⟨by rw[hl,List.append_assoc];rfl,k3.blk b12 (ne3 b12 de),k3.blk b22 (ne3 b22 de),?_,by rw[hlen];exact ow3,rb,OwnS.kp lw2 k3 (fun b hb e=>?_),lb,⟨A,c,?_,ha⟩,(ma.kpT k hmN).kpT k3 mN3,ss,?_,?_,fun y hy=>re y (by simp[hy]),?_,?_,?_,?_,?_,?_,?_,?_⟩
 ·rw[hlen,itsR_one,shutI_app,o2,List.append_nil];exact k3.blk st2 (ne3 st2 de)
 ·have:=lb b hb;have:=rb b e;omega
 ·rw[itsR_one,resI_append];have e:resI P.D r.its=[]:=by unfold resI;rw[o2];rfl
  rw[e,List.append_nil];exact⟨k3.blk hr1 (ne3 hr1 de),OwnS.kp hq2 k3 (fun b hb e=>by
   obtain⟨_,cur,hh⟩:=OwnS.blt ow2 e;exact own_blk hq2 hh de hb)⟩
 ·intro z hz;refine⟨(sl z hz).1,fun h9=>?_⟩;obtain⟨r0,h1,h2,h3⟩:=(sl z hz).2 h9;obtain⟨r1,h4,h5⟩:=hget2 _ _ h2;exact⟨r1,h1,h4,h5.trans h3⟩
 ·intro i r0 hi;obtain⟨r1,h1,h2,h3⟩:=hget i r0 hi;obtain⟨z,hz,h4,h5,h6⟩:=rr i r1 h1;exact⟨z,hz,h4.trans h2,h5.trans h3,h6⟩
 ·intro y hy;rcases mL y hy with rfl|hy
  ·exact Fo.At.kpT k3 gN3 hu.at_
  ·exact Fo.At.kpT k3 gN3 ((gt y (mX y hy)).kp k (fun b hb h9=>nd2.2.2 b h9 b (mem_fpR.2 ⟨y,hy,hb⟩) rfl))
 ·refine(fpR_perm p2).nodup_iff.2 ?_;rw[fpR_cons];refine List.nodup_append.2 ⟨hu.nd,nd2.2.1,fun a ha b hb e=>?_⟩;subst e;rcases hu.sub a ha with h9|h9
  ·exact nd2.2.2 a h9 a hb rfl
  ·obtain⟨y,hy,hyb⟩:=mem_fpR.1 hb;have:=(gt y (mX y hy)).lt a hyb;omega
 ·intro x hx;obtain⟨y,hy,hyx⟩:=mem_fpR.1 hx;rcases mL y hy with rfl|hy
  ·rcases hu.sub x hyx with h9|h9
   ·rcases List.mem_append.1 h9 with h9|h9
    ·exact fr x (mem_fpR.2 ⟨r',m',h9⟩)
    ·exact fr x (mem_fpR.2 ⟨r,mr,h9⟩)
   ·exact hnb x (Nat.le_trans kp.size h9)
  ·exact fr x (mem_fpR.2 ⟨y,mX y hy,hyx⟩)
 ·intro x hx;obtain⟨y,hy,hyx⟩:=mem_fpR.1 hx;rcases mL y hy with rfl|hy
  ·rcases hu.sub x hyx with h9|h9
   ·rcases List.mem_append.1 h9 with h9|h9
    ·exact fb x (mem_fpR.2 ⟨r',m',h9⟩)
    ·exact fb x (mem_fpR.2 ⟨r,mr,h9⟩)
   ·exact .inr (Nat.le_trans kp.size h9)
  ·exact fb x (mem_fpR.2 ⟨y,mX y hy,hyx⟩)
 ·rw[itsR_one,openI_append,o1];have e1:(itsR (xs++r2::ys)).Perm (r2.its++itsR (xs++ys)):=by
   have:=itsR_perm (a:=xs++r2::ys) (b:=r2::(xs++ys)) List.perm_middle
   rwa [itsR_cons] at this
  have e2:(itsR (xs++r'::ys)).Perm (r'.its++itsR (xs++ys)):=by
   have:=itsR_perm (a:=xs++r'::ys) (b:=r'::(xs++ys)) List.perm_middle
   rwa [itsR_cons] at this
  refine e1.trans ((its2.append_right _).trans ?_);have e3:(r'.its++r.its++itsR (xs++ys)).Perm (r'.its++itsR (xs++ys)++r.its):=by
   rw[List.append_assoc,List.append_assoc];exact List.perm_append_comm.append_left _
  exact e3.trans ((e2.symm.trans it).append_right _)
 ·intro y hy;rcases List.mem_append.1 hy with hy|hy
  ·exact nl y (by simp[hy])
  ·rcases List.mem_cons.1 hy with rfl|hy
   ·rw[hll];exact nl r' si
   ·exact nl y (by simp[hy])
 ·intro y hy hdn x hx;rcases mL y hy with rfl|hy
  ·rw[hll] at hdn;rcases List.mem_append.1 (hu.pos.mem_iff.1 hx) with hx|hx
   ·exact dn r' m' hdn x hx
   ·exact dn r mr (by rw[<-hrl];exact hdn) x hx
  ·exact dn y (mX y hy) hdn x hx
 ·refine(kp.chain k (fun i hi=>?_)).chain k3 (fun i hi=>.inr (rb i hi));have:i∈fpR ((xs++r'::ys)++r::rest):=by
   rcases List.mem_append.1 hi with hi|hi
   ·exact mem_fpR.2 ⟨r',m',hi⟩
   ·exact mem_fpR.2 ⟨r,mr,hi⟩
  rcases fb i this with h9|h9
  ·exact .inl (.inr (.inr (.inr (.inr h9))))
  ·exact .inr h9
end
section
open Go.RowKit
attribute [local go_sem ↓] Go.wp_at_zero Go.wp_at_succ
def RetNw (gc:Nat)(cd:Cd)(w:World)(e:Ending)(w':World):Prop:=∃(q:Mq) (fv:Value) (sts:List Sta),e=.returned (ptrV q.gm)/\q.gc=gc/\q.cd=cd/\MaI w' (fun b=>w.heap.size<=b) q 1 0 fv sts/\(∃z∈sts,fv=ptrV z.b/\z.l=stateG (insL cd.hs) [0])/\sts.length<=1/\(∀z∈sts,z.rd=0)/\Ext w w'
theorem MaI.setFv {w w':World}{F:Nat->Prop}{q:Mq}{mark rd:Int}{fv fv':Value}{sts:List Sta}(h:MaI w F q mark rd fv sts)(k:KpP (·=q.gm) w w')(hb:Blk w' q.gm 134 (stmC q.gc q.gS q.gM q.cd.hs.length mark rd fv')):MaI w' F q mark rd fv' sts:=by
 obtain⟨bm,⟨ms,bM,hl,hms⟩,sq,fm,fM⟩:=h;refine⟨hb,⟨ms,k.blk bM (blk_blk bM bm de),hl,hms⟩,sq.keep k (sq.map.ne bm) (fun z m=>⟨blk_blk (sq.at_ z m).blk bm de,(sq.at_ z m).mp.ne bm,fun b hb=>?_⟩),fm,fM⟩;obtain⟨cur,hh⟩:=(sq.at_ z m).ty b hb;exact blk_blk hh bm de
theorem MaI.mono' {w:World}{F F':Nat->Prop}{q:Mq}{mark rd:Int}{fv:Value}{sts:List Sta}(h:MaI w F q mark rd fv sts)(hF:∀b,F b->F' b):MaI w F' q mark rd fv sts:=⟨h.blk,h.mks,h.sq.mono hF,hF _ h.fm,hF _ h.fM⟩
theorem newMachine_any (gc:Nat)(cd:Cd)(runes:Bool)(caps:Int)(hG:GOk runes caps (insL cd.hs))(w:World)(hc:CdAt w gc cd)(hls:cd.ls.length=cd.hs.length) :
 Calls Tryz.prog 62 #[.pointer (some ⟨gc,0,none⟩)] w (RetNw gc cd w):=by
 have hn8:=hG.len;rw[insL_len] at hn8;have c0:w.cell? ⟨gc,0,none⟩=some (.slice cd.A cd.hs.length cd.c):=hc.blk.cell 0;have hcap:=hc.pl.len;have hmk:=mkInts cd.hs.length om;have hmm:=@run_makeMap Tryz.prog;have HC:=lh hc;have HG:=lh hG;clear hc hG;have E1:=Ext.alloc w (.map #[] 0);have B1:=MapAt.made w Value.string ptrV;have c0':=E1.cell c0;have hsz1:(w.alloc (.map #[] 0)).heap.size=w.heap.size+1:=by simp
 have E2:=Ext.alloc (w.alloc (.map #[] 0)) (.cells (Array.replicate cd.hs.length (Value.int .i64 0)) 3);have B2:=Blk.new (w.alloc (.map #[] 0)) 3 (Array.replicate cd.hs.length (Value.int .i64 0));go_enter Tryz.func62,Tryz.ntmps62
 go_upto_region 2 with fail
 rw[hsz1] at B2;have hsz2:((w.alloc (.map #[] 0)).alloc (.cells (Array.replicate cd.hs.length (Value.int .i64 0)) 3)).heap.size=w.heap.size+1+1:=by simp
 obtain⟨gS,hgS⟩:∃g,g=w.heap.size:=⟨_,rfl⟩;obtain⟨gM,hgM⟩:∃g,g=w.heap.size+1:=⟨_,rfl⟩;obtain⟨gm,hgm⟩:∃g,g=w.heap.size+1+1:=⟨_,rfl⟩
 rw[<-hgm] at hsz2 ⊢
 rw[<-hgM] at B2 ⊢
 rw[<-hgS] at B1 ⊢;have B3:=Blk.new ((w.alloc (.map #[] 0)).alloc (.cells (Array.replicate cd.hs.length (Value.int .i64 0)) 3)) 134 (stmC gc gS gM cd.hs.length 0 0 (.pointer none));have E3:=Ext.alloc ((w.alloc (.map #[] 0)).alloc (.cells (Array.replicate cd.hs.length (Value.int .i64 0)) 3)) (.cells (stmC gc gS gM cd.hs.length 0 0 (.pointer none)) 134);rw[hsz2] at B3;have hS0:w.heap.size<=gS:=om;have hM0:w.heap.size<=gM:=om;have hm0:w.heap.size<=gm:=om;have X3:=(E1.trans E2).trans E3;have B1':=(B1.ext E2).ext E3;have B2':=B2.ext E3;change Code.wp _ _ _ _ (((w.alloc (.map #[] 0)).alloc (.cells (Array.replicate cd.hs.length (Value.int .i64 0)) 3)).alloc (.cells (stmC gc gS gM cd.hs.length 0 0 (.pointer none)) 134));clear hgS hgM hgm hsz1 hsz2 c0' hmk hmm E1 E2 E3 B1 B2;generalize ((w.alloc (.map #[] 0)).alloc (.cells (Array.replicate cd.hs.length (Value.int .i64 0)) 3)).alloc (.cells (stmC gc gS gM cd.hs.length 0 0 (.pointer none)) 134)=w3 at *;have hint:iInts (List.replicate cd.hs.length 0)=Array.replicate cd.hs.length (Value.int .i64 0):=by simp[iInts]
 have HMA:=lh (show MaI w3 (fun b=>w.heap.size<=b) ⟨gm,gc,gS,gM,cd⟩ 0 0 (.pointer none) [] from
  ⟨B3,⟨List.replicate cd.hs.length 0,(by rw[hint];exact B2'),by simp,fun i hi=>by simp[List.getD_eq_getElem?_getD,hi]⟩,⟨B1',by simp,by simp,by simp,by simp,by simp,by simp,hS0,by simp⟩,hm0,hM0⟩)
 have BF:=Blk.new w3 3 #[.int .i64 0];have EF:=Ext.alloc w3 (.cells #[.int .i64 0] 3);have hgmlt:=B3.lt;have hgMlt:=B2'.lt;have HRE:=lh (show Calls Tryz.prog 129 #[ptrV gm,.slice (some ⟨w3.heap.size,0,none⟩) 1 1] (w3.alloc (.cells #[.int .i64 0] 3)) (RetRe (fun b=>w.heap.size<=b) ⟨gm,gc,gS,gM,cd⟩ [] 0 0 (.pointer none) (stateG (insL cd.hs) [0]) (w3.alloc (.cells #[.int .i64 0] 3))) from by
  refine sreach_any _ (fun b=>w.heap.size<=b) ⟨gm,gc,gS,gM,cd⟩ runes caps HG.out 0 0 (.pointer none) [] om (HMA.out.ext EF) (fun w' k=>?_) hls (some ⟨w3.heap.size,0,none⟩) 1 [0] (fun w' k=>?_) (fun i hi=>by rw[List.mem_singleton.1 hi];exact hn8.1)
  ·exact HC.out.ext' ((X3.trans EF).kp k (fun i hi=>by rcases hi with hi|hi<;>(simp only at hi;omega)))
  ·have bf:=k.blk BF (by simp only;omega);refine⟨Nat.le_refl _,by unfold maxLen;simp,fun x hx=>?_,fun _=>⟨w3.heap.size,0,rfl,fun i hi=>?_⟩⟩
   ·have:x=0:=by simpa[natsI] using hx
    unfold I64;omega
   ·have hi0:i=0:=by simp[natsI] at hi;omega
    subst hi0;have:=bf.cell 0
    simpa[natsI] using this)
 have HX3:=lh X3;have HXF:=lh EF;clear X3 B1' B2' B3 BF EF hgmlt hgMlt c0 hcap
 go_wp2_with fail
 refine HRE.out.mono ?_;rintro e w5 ⟨z,sts',rfl,hz,hzl,hst,hMa,hk⟩;have c5:w5.cell? ⟨gm,5,none⟩=some (.pointer none):=hMa.blk.cell 5;have f5:=hMa.blk.frz 5;have k6:KpP (·=gm) w5 (w5.setCell ⟨gm,5,none⟩ (ptrV z.b)):=KpP.set (p:=(·=gm)) (x:=⟨gm,5,none⟩) (KpP.refl _ _) (.inl rfl) _;have HF:=lh (show RetNw gc cd w (.returned (ptrV gm)) (w5.setCell ⟨gm,5,none⟩ (ptrV z.b)) by
  have hm:=hMa.setFv (fv':=ptrV z.b) k6 (by have:=hMa.blk.set 5 (ptrV z.b);simpa[stmC] using this);have hx5:Ext w w5:=((HX3.out.trans HXF.out).kp hk (fun i hi=>by rcases hi with hi|hi|hi<;>(simp only at hi;omega)));refine⟨⟨gm,gc,gS,gM,cd⟩,ptrV z.b,sts',rfl,rfl,rfl,hm.mono' (fun b hb=>?_),⟨z,hz,rfl,hzl⟩,?_,fun y hy=>?_,hx5.kp k6 (fun i hi=>by rw[show i=gm from hi];exact hm0)⟩
  ·rcases hb with hb|hb
   ·exact hb
   ·exact Nat.le_trans (HX3.out.trans HXF.out).size hb.1
  ·rcases hst with h|⟨h,_⟩<;>rw[h]<;>simp
  ·rcases hst with h|⟨h,h0⟩
   ·rw[h] at hy;cases hy
   ·rw[h] at hy;have:y=z:=by simpa using hy
    rw[this];exact h0)
 clear k6 hMa hk hz hzl hst
 go_wp2_with fail
 go_ret
 exact HF.out
theorem phas_any (A:Option Addr)(c:Nat)(l:List Sp)(x:Int)(w:World)(hl:SL w A c l):Calls Tryz.prog 213 #[.slice A l.length c,.int .i64 x] w (RetV (.bool (has l x)) w):=by
 have HL:=lh hl;have h1:=hl.le;have h2:=hl.cap;unfold maxLen at h2;clear hl;go_enter Tryz.func213,Tryz.ntmps213
 go_wp2
 go_loopw [9] (fun i wr=>∃k:Nat,k<=l.length/\i=.int .i64 k/\Hid (has (l.take k) x=false)/\Hid (Ext w wr)) (fun i _=>l.length-(intOf i).toNat)
 case atStart=>exact⟨0,Nat.zero_le _,rfl,lh rfl,lh (Ext.rfl' _)⟩
 case round=>
  obtain⟨k,hk,rfl,HT,HX⟩:=hrel;by_cases hlt:k<l.length
  ·obtain⟨b,o,rfl,g1,g2⟩:=(HL.out.ext HX.out).get hlt;have hltI:(k:Int)<l.length:=om;have HS:Hid (has (l.take (k+1)) x=(decide (l[k].1<=x)&&decide (x<=l[k].2))):=lh (by
    have h:=HT.out;rw[List.take_succ_eq_append_getElem hlt];unfold has at h ⊢;rw[List.any_append,h]
    simp)
   have HF:Hid (has (l.take (k+1)) x=true->has l x=true):=lh (fun h=>by
    rw[has_iff] at h ⊢;obtain⟨s,hs,h3⟩:=h;exact⟨s,List.mem_of_mem_take hs,h3⟩)
   generalize l[k]=s at *;have B:=Blk.new wr 81 #[.int .i64 s.1,.int .i64 s.2];have E:=Ext.alloc wr (.cells #[.int .i64 s.1,.int .i64 s.2] 81)
   go_upto_region 4 with fail
   generalize wr.alloc (.cells #[.int .i64 s.1,.int .i64 s.2] 81)=w4 at *;generalize wr.heap.size=g4 at *;have z0:w4.cell? ⟨g4,0,none⟩=some (.int .i64 s.1):=B.cell 0;have z1:w4.cell? ⟨g4,1,none⟩=some (.int .i64 s.2):=B.cell 1;have HX4:=lh (HX.out.trans E);clear g1 g2 B E;by_cases ha:s.1<=x
   ·by_cases hb:x<=s.2
    ·have HV:Hid (has l x=true):=lh (HF.out (by rw[HS.out];simp[ha,hb]))
     go_wp2
     go_ret
     exact⟨by rw[HV.out];rfl,HX4.out⟩
    ·have HV:Hid (has (l.take (k+1)) x=false):=lh (by rw[HS.out];simp[hb])
     go_wp2
     go_roundw
     case rel=>exact⟨k+1,om,by go_num,HV,HX4⟩
     case measure=>simp[intOf];omega
   ·have HV:Hid (has (l.take (k+1)) x=false):=lh (by rw[HS.out];simp[ha])
    go_wp2
    go_roundw
    case rel=>exact⟨k+1,om,by go_num,HV,HX4⟩
    case measure=>simp[intOf];omega
  ·have HV:Hid (has l x=false):=lh (by
    have h:=HT.out
    rwa [List.take_of_length_le om] at h)
   go_wp2
   go_ret
   exact⟨by rw[HV.out];rfl,HX.out⟩
structure SeI (p:PkP)(g3 g8 g9:Nat)(w:World)(fd:Bool)(en:Int):Prop where
 b3:Blk w g3 153 #[.pointer (some ⟨p.gm,0,none⟩)]
 b9:Blk w g9 4 #[.bool fd]
 b8:∃(st:Int) (A:Option Addr) (n c:Nat),Blk w g8 56 #[.int .i64 st,.int .i64 en,.slice A n c]/\(fd=true->st=p.fr)
 l:p.w0.heap.size<=g8/\p.w0.heap.size<=g9/\g9<p.base/\p.w1.heap.size<=g8/\p.w1.heap.size<=g9
def SQ (g8 g9 b:Nat):Prop:=b=g8\/b=g9
theorem SeI.ext {p:PkP}{g3 g8 g9:Nat}{w w':World}{fd:Bool}{en:Int}(h:SeI p g3 g8 g9 w fd en)(x:Ext w w'):SeI p g3 g8 g9 w' fd en:=by
 obtain⟨h1,h2,⟨st,A,n,c,h3,h5⟩,h4⟩:=h;exact⟨h1.ext x,h2.ext x,⟨st,A,n,c,h3.ext x,h5⟩,h4⟩
theorem PK6z2 {P:Prop} (h:P:=by
 injection e1 with e1;injection e1 with _ e1;exact absurd e1 de):P:=h
theorem PkI.see {p:PkP}{g3 g8 g9:Nat}{w w':World}{A:Option Addr}{c:Nat}{ths:List Th}{sn:List Nat}{mk:Int}{cl fd:Bool}{en:Int}(h:PkI p w A c ths sn mk cl)(s:SeI p g3 g8 g9 w fd en)(k:KpP (SQ g8 g9) w w'):PkI p w' A c ths sn mk cl:=by
 obtain⟨h1,h2,h3,h4,h5,h6,h7,h8,⟨ms,h9,h10⟩,h11,h12,h13,h14,h15⟩:=h;obtain⟨_,s9,⟨st,SA,sn',sc,s8,hst⟩,sl⟩:=s;have f:∀{g T:Nat} {cs:Array Value},Blk w g T cs->T≠56->T≠4->¬SQ g8 g9 g:=fun hb t1 t2 e=>by
  rcases e with e|e
  ·exact blk_blk hb s8 t1 e
  ·exact blk_blk hb s9 t2 e
 have fr:∀b,SQ g8 g9 b->b<p.base\/∀cur,w.heap[b]?≠some (.cells cur 3 (0,0)):=fun b hb=>.inr fun cur e=>by
  rcases hb with rfl|rfl
  ·have e1:=s8.symm.trans e;exact PK6z2
  ·have e1:=s9.symm.trans e;exact PK6z2
 refine⟨Ext.kp h1 k (fun i hi=>by rcases hi with rfl|rfl<;>omega),k.blk h2 (f h2 de de),k.blk h3 (f h3 de de),k.blk h4 (fun e=>?_),k.blk h5 (f h5 de de),k.blk h6 (f h6 de de),OwnS.kp h7 k (fun b hb e=>?_),fun t ht=>(h8 t ht).kp k fr,⟨ms,k.blk h9 (f h9 de de),h10⟩,h11,h12,h13,h14.chain k (fun i hi=>.inr (by rcases hi with rfl|rfl<;>omega)),h15⟩
 ·rcases e with e|e
  ·exact blk_blk h4 s8 de e
  ·omega
 ·rcases e with e|e
  ·subst e;exact own_blk h7 s8 de hb
  ·subst e;exact own_blk h7 s9 de hb
def RetSe (p:PkP)(g3 g8 g9:Nat)(dn fd:Bool)(at_ en:Int)(w:World)(e:Ending)(w':World):Prop:=
 e=.returned (.bool true)/\KpP (SQ g8 g9) w w'/\SeI p g3 g8 g9 w' (fd || dn) (if dn=true then at_ else en)
theorem mk2I (n:Nat)(h:n<=1000000)(W:World):(Instr.makeSlice 37 (.int .i64 (n:Int)) (.int .i64 (n:Int))).run Tryz.prog W=.ok (.slice (some ⟨W.heap.size,0,none⟩) n n) (W.alloc (.cells (madeCells #[.int .i64 0,.int .i64 0] (n*2)) 54)):=by
 have inf:(Tryz.prog.info? 54).map (fun i=>(i.zero,i.size,i.bytes))=some (some (.agg #[.int .i64 0,.int .i64 0]),2,16):=by kernel_rfl
 obtain⟨i0,hi0,hz0,hz1,hz2⟩:=info_parts inf;have:=run_make (P:=Tryz.prog) W 37 54 i0 _ Tryz.underlying37 hi0 hz0 .i64 .i64 n n om (Int.le_refl _) (by rw[hz2];omega) om;rw[this,hz1]
 rfl
theorem PK6z1 {P:Prop} (h:P:=by
 go_wp2_with fail
 go_roundw
 case rel=>exact⟨q+1,_,by go_num,om,lh (hRel _ _).out.1,lh (hRel _ _).out.2⟩
 case measure=>simp[intOf];omega):P:=h
theorem psee_any (p:PkP)(hs:List Hin)(hG:GOk p.rn p.caps (insL hs))(hP:PL p.w0 p.gA p.gc hs)(hpn:p.n=hs.length)(hn2:(p.n2:Int)=2*p.caps)(at_:Int)(g3 g8 g9:Nat)(w:World)(A:Option Addr)(c:Nat)(ths:List Th)(sn:List Nat)(mk:Int)(cl fd:Bool)(en:Int)
 (hI:PkI p w A c ths sn mk cl) (hS:SeI p g3 g8 g9 w fd en) (hlt:∀t∈ths,t.pc<hs.length) (hl8:ths.length<=10000) :
 Calls Tryz.prog 150 #[.int .i64 at_,.slice A ths.length c,.pointer (some ⟨g3,0,none⟩),.pointer (some ⟨g9,0,none⟩),.pointer (some ⟨g8,0,none⟩)] w (RetSe p g3 g8 g9 (doneG (insL hs) (ths.map Th.pc)) fd at_ en w):=by
 have HI:=lh hI;have HS:=lh hS;have hac:=OwnS.caps hI.o;by_cases h0:ths=[]
 ·subst h0;have HD:Hid (doneG (insL hs) (([]:List Th).map Th.pc)=false):=lh rfl;clear hI hS hlt;go_enter Tryz.func150,Tryz.ntmps150
  go_wp2_with fail
  go_ret
  rw[HD.out];exact⟨rfl,KpP.refl _ _,by simpa using HS.out⟩
 ·obtain⟨m,hm⟩:∃m,ths.length=m+1:=⟨ths.length-1,by have:=List.length_pos_iff.2 h0;omega⟩;have hml:m<ths.length:=om;obtain⟨b,o,hA,hc⟩:=OwnS.cells hI.o (by intro e;have:=flatT_len p.n2 ths;rw[e] at this;simp at this;omega);have gc:=flatT_get p.n2 ths m hml;have one:∀(i:Nat) (v:Value),(flatT p.n2 ths)[i]? = some v->w.cell? ⟨b,o+i,none⟩=some v:=fun i v hv=>by
   obtain⟨hi,e⟩:=List.getElem?_eq_some_iff.1 hv
   rw[<-e];exact hc i hi
  have q0:=one _ _ gc.1;have q1:w.cell? ⟨b,o+m*3+1,none⟩=some (.int .i64 ths[m].fr):=by rw[Nat.add_assoc];exact one _ _ gc.2.1
  have q2:w.cell? ⟨b,o+m*3+2,none⟩=some (.slice ths[m].A p.n2 ths[m].c):=by rw[Nat.add_assoc];exact one _ _ gc.2.2
  have hmem:ths[m]∈ths:=List.getElem_mem _;have HRG:=lh (hI.rg _ hmem);have HFT:=lh (hI.ff _ hmem);have hpc:=hlt _ hmem;have HD:Hid (doneG (insL hs) (ths.map Th.pc)=isD (insL hs) ths[m].pc):=lh (by
   rw[doneG_last (by simpa using h0),List.getLast_eq_getElem];simp[hm])
  generalize ths[m]=t at *;clear gc one hc hmem hlt h0;subst hA;rw[hm] at hac ⊢;have B8:=Blk.new w 262 #[.int .i64 t.pc,.int .i64 t.fr,.slice t.A p.n2 t.c];have E8:=Ext.alloc w (.cells #[.int .i64 t.pc,.int .i64 t.fr,.slice t.A p.n2 t.c] 262);have hmI:((m+1:Nat):Int)-1=(m:Int):=om;go_enter Tryz.func150,Tryz.ntmps150
  go_upto_region 4 with fail
  obtain⟨gt,hgt⟩:∃g,g=w.heap.size:=⟨_,rfl⟩
  rw[<-hgt] at B8 ⊢;have hgtl:w.heap.size<=gt:=om;clear hgt;generalize w.alloc (.cells #[.int .i64 (t.pc:Int),.int .i64 t.fr,.slice t.A p.n2 t.c] 262)=w4 at *;have HI4:=lh (hI.ext E8);have HS4:=lh (hS.ext E8);have HB4:=lh B8;have HRG4:=lh (HRG.out.ext E8);have c3:w4.cell? ⟨g3,0,none⟩=some (.pointer (some ⟨p.gm,0,none⟩)):=HS4.out.b3.cell 0;have cm0:w4.cell? ⟨p.gm,0,none⟩=some (.slice p.gA hs.length p.gc):=by rw[<-hpn];exact HI4.out.bm.cell 0
  have ct:w4.cell? ⟨gt,0,none⟩=some (.int .i64 t.pc):=B8.cell 0;obtain⟨pb,po,hgA,i0,_⟩:=(hP.ext HI4.out.x).get hpc;rw[hgA] at cm0;have HIS:Hid (isD (insL hs) t.pc=decide (hs[t.pc].op=0)):=lh (isD_get hpc);generalize hs[t.pc]=h at *;have hgl:=hP.len;have hpcI:(t.pc:Int)<hs.length:=om;clear hI hS q0 q1 q2 hgA;have d0:=kc0 c3;have d1:=kc0 cm0;have d2:=kc0 ct;have d3:=kc0 i0;refine Xr.start [] kr ?_;refine Xtk 0 ?_
  iterate 10(refine Xtn ?_)
  refine Xdn fun w5 hE5 hK5=>?_;have HX5:=lh (E8.trans hE5);have HI5:=lh (HI4.out.ext hE5);have HS5:=lh (HS4.out.ext hE5);have HB5:=lh (HB4.out.ext hE5);have HRG5:=lh (HRG4.out.ext hE5);have hgt5:Hid (w.heap.size<=gt):=lh hgtl;clear d0 d1 d2 d3 c3 cm0 ct i0 hE5 hK5 E8 B8 HI4 HS4 HB4 HRG4 HRG hgtl hP HI HS;by_cases hop:h.op=0
  ·have HDT:Hid (doneG (insL hs) (ths.map Th.pc)=true):=lh (by rw[HD.out,HIS.out];simp[hop]);have ho1:(h.op != 0)=false:=by simp[hop]
   obtain⟨st,SA,sn',sc,s8,hst⟩:=HS5.out.b8;have c9:w5.cell? ⟨g9,0,none⟩=some (.bool fd):=HS5.out.b9.cell 0;have f9:=HS5.out.b9.frz 0
   go_upto_region 7 with fail
   obtain⟨k,hk⟩:∃k:Nat,p.caps=(k:Int):=⟨p.caps.toNat,by have:=hG.cap9;omega⟩;have hk9:k<=9:=by have:=hG.cap9;omega
   have HN2:Hid (p.n2=2*k):=lh om;have s8':=s8.far (p:=⟨g9,0,none⟩) (fun e=>blk_blk s8 HS5.out.b9 de e) (.bool true);have b3':=HS5.out.b3.far (p:=⟨g9,0,none⟩) (fun e=>blk_blk HS5.out.b3 HS5.out.b9 de e) (.bool true);have bt':=HB5.out.far (p:=⟨g9,0,none⟩) (fun e=>blk_blk HB5.out HS5.out.b9 de e) (.bool true);have bm':=HI5.out.bm.far (p:=⟨g9,0,none⟩) (fun e=>blk_blk HI5.out.bm HS5.out.b9 de e) (.bool true);have b9':Blk (w5.setCell ⟨g9,0,none⟩ (.bool true)) g9 4 #[.bool true]:=by simpa using HS5.out.b9.set 0 (.bool true)
   have k9:KpP (SQ g8 g9) w (w5.setCell ⟨g9,0,none⟩ (.bool true)):=KpP.set (x:=⟨g9,0,none⟩) (KpP.of_ext HX5.out) (.inl (.inr rfl)) _;have r9:RegOk (w5.setCell ⟨g9,0,none⟩ (.bool true)) p.base p.n2 t.A t.c:=HRG5.out.kp (KpP.set (x:=⟨g9,0,none⟩) (KpP.refl (·=g9) _) (.inl rfl) _) (fun b hb=>.inr fun cur e=>by
    have hb':b=g9:=hb;subst hb';have e1:=HS5.out.b9.symm.trans e;exact PK6z2)
   generalize w5.setCell ⟨g9,0,none⟩ (.bool true)=w6 at *;have n3:g3∉[g8]:=by simpa using blk_blk b3' s8' de
   have nt:gt∉[g8]:=by simpa using blk_blk bt' s8' de
   have nm:p.gm∉[g8]:=by simpa using blk_blk bm' s8' de
   have cc3:w6.cell? ⟨g3,0,none⟩=some (.pointer (some ⟨p.gm,0,none⟩)):=b3'.cell 0;have cct:w6.cell? ⟨gt,1,none⟩=some (.int .i64 t.fr):=bt'.cell 1;have ccm:w6.cell? ⟨p.gm,1,none⟩=some (.int .i64 k):=by rw[<-hk];exact bm'.cell 1
   have d0:=fun(w':World) (h:Kp [g8] w6 w')=>h.cell cc3 n3;have d1:=fun(w':World) (h:Kp [g8] w6 w')=>h.cell cct nt;have d2:=fun(w':World) (h:Kp [g8] w6 w')=>h.cell ccm nm;have h8lt:=s8'.lt;have HK9:=lh k9;have H8:=lh s8';have H9:=lh b9';have H3:=lh b3';have Ht:=lh bt';have HR9:=lh r9;clear cc3 cct ccm n3 nt nm s8' b3' bt' bm' b9' k9 r9 c9 f9 s8;refine Xr.start [g8] kr ?_;refine Xtk 0 ?_
   iterate 7(refine Xtn ?_)
   clear d0 d1 d2;have hmk:=mk2I k om;refine Xr.lazy 8 40 15 (fun g=>.slice (some ⟨g,0,none⟩) k k) 54 (madeCells #[.int .i64 0,.int .i64 0] (k*2)) rfl (by simpa using h8lt) dK si (fun w'=>by go_simp) ?_;refine Xsp 9 fun w7 hE7 hK7 K hKK=>?_;have b7:=H8.out.ext hE7;obtain⟨y0,y1,y2,f0,f1,f2,_⟩:=b7.c3;go_simp;change K _ (setEd w7 g8 0 0 none 0 0);refine hKK _ _ (setEd_kpp (KpP.refl _ _) (.inl si) _ _ _ _ _) (setEd_kp hK7 si _ _ _ _ _) ?_;have c7:=setEd_blk b7 0 0 none 0 0;generalize setEd w7 g8 0 0 none 0 0=w8 at *;clear hKK y0 y1 y2 f0 f1 f2 b7 hE7 hK7;refine ptm ?_;refine Xtk 10 ?_;refine Xsp 11 fun w9 hE9 hK9 K hKK=>?_;have b9:=c7.ext hE9;obtain⟨y0,y1,y2,f0,f1,f2,_⟩:=b9.c3;go_simp;refine hKK _ _ (WI_setL (WI_refl _ _ _) List.mem_cons_self _ _) (hK9.setL List.mem_cons_self _ _) ?_;have c9:Blk (w9.setCell ⟨g8,0,none⟩ (.int .i64 t.fr)) g8 56 #[.int .i64 t.fr,.int .i64 0,.slice none 0 0]:=by simpa using b9.set 0 (.int .i64 t.fr)
   generalize w9.setCell ⟨g8,0,none⟩ (.int .i64 t.fr)=w10 at *;clear hKK y0 y1 y2 f0 f1 f2 b9 c7 hE9 hK9;refine ptm ?_;refine Xtk 12 ?_;refine Xsp 13 fun w11 hE11 hK11 K hKK=>?_;have b11:=c9.ext hE11;obtain⟨y0,y1,y2,f0,f1,f2,_⟩:=b11.c3;go_simp;refine hKK _ _ (WI_setL (WI_refl _ _ _) List.mem_cons_self _ _) (hK11.setL List.mem_cons_self _ _) ?_;have c11:Blk (w11.setCell ⟨g8,1,none⟩ (.int .i64 at_)) g8 56 #[.int .i64 t.fr,.int .i64 at_,.slice none 0 0]:=by simpa using b11.set 1 (.int .i64 at_)
   generalize w11.setCell ⟨g8,1,none⟩ (.int .i64 at_)=w12 at *;clear hKK y0 y1 y2 f0 f1 f2 b11 c9 hE11 hK11;refine ptm ?_;refine Xtk 14 ?_;refine Xr.stepZ rfl dK (fun _=>by rfl) (fun w13 gC hE13 hK13 hgC hBC hno K hKK=>?_);have b13:=c11.ext hE13;obtain⟨y0,y1,y2,f0,f1,f2,_⟩:=b13.c3;go_simp;refine hKK _ _ (WI_setL (WI_refl _ _ _) List.mem_cons_self _ _) (hK13.setL List.mem_cons_self _ _) ?_;have c13:Blk (w13.setCell ⟨g8,2,none⟩ (.slice (some ⟨gC,0,none⟩) k k)) g8 56 #[.int .i64 t.fr,.int .i64 at_,.slice (some ⟨gC,0,none⟩) k k]:=by simpa using b13.set 2 (.slice (some ⟨gC,0,none⟩) k k)
   have bC:=hBC.far (p:=⟨g8,2,none⟩) (fun e=>blk_blk hBC b13 de e) (.slice (some ⟨gC,0,none⟩) k k);generalize w13.setCell ⟨g8,2,none⟩ (.slice (some ⟨gC,0,none⟩) k k)=w14 at *;clear hKK y0 y1 y2 f0 f1 f2 b13 c11 hE13 hK13 hBC hno;refine ptm ?_;refine Xdn fun w15 hE15 hK15=>?_;have HM8:=lh (c13.ext hE15);have HBC:=lh (bC.ext hE15);have HK15:=lh hK15;clear c13 bC hE15 hmk hK15;have h8C:g8≠gC:=blk_blk HM8.out HBC.out de;have K15:=lh (show KpP (SQ g8 g9) w6 w15 from KpP.mono (show KpP (·∈[g8]) w6 w15 from⟨HK15.out.os,HK15.out.tape,HK15.out.output,HK15.out.size,HK15.out.block⟩) (fun b hb=>.inl (by simpa using hb)));have HG9:=lh (show gC≠g9 from blk_blk HBC.out (Kp.blk H9.out HK15.out (by simpa using blk_blk H9.out H8.out de)) de);have hC6:Hid (w6.heap.size<=gC):=lh hgC;have m2:w15.cell? ⟨g8,2,none⟩=some (.slice (some ⟨gC,0,none⟩) k k):=HM8.out.cell 2;clear hgC h8lt hpcI hgl hac hpc hk hn2
   go_upto_region 9 with fail
   go_loopw [47] (fun v wr=>∃(q:Nat) (cs:Array Value),v=.int .i64 q/\q<=k/\Hid (Blk wr gC 54 cs/\cs.size=k*2)/\Hid (KpP (·=gC) w15 wr)) (fun v _=>k-(intOf v).toNat)
   case atStart=>exact⟨0,_,rfl,Nat.zero_le _,lh ⟨HBC.out,size_madeCells _ _⟩,lh (KpP.refl _ _)⟩
   case round=>
    obtain⟨q,cs,rfl,hq,HC,HK⟩:=hrel;have HFR:=lh (fun(b:Nat) (hb:b<w15.heap.size) (hn:b≠gC)=>HK.out.block b hb hn);by_cases hqk:q<k
    ·have hqI:(q:Int)<k:=om;have HMr:=HK.out.blk HM8.out h8C;have m2:wr.cell? ⟨g8,2,none⟩=some (.slice (some ⟨gC,0,none⟩) k k):=HMr.cell 2;have bt15:Blk w15 gt 262 _:=Kp.blk Ht.out HK15.out (by simpa using blk_blk Ht.out H8.out de);have btr:=HK.out.blk bt15 (blk_blk bt15 HBC.out de);have ctr:wr.cell? ⟨gt,2,none⟩=some (.slice t.A p.n2 t.c):=btr.cell 2;have hr15:RegOk w15 p.base p.n2 t.A t.c:=HR9.out.kp (show KpP (·∈[g8]) w6 w15 from⟨HK15.out.os,HK15.out.tape,HK15.out.output,HK15.out.size,HK15.out.block⟩) (fun b hb=>.inr fun cur e=>by
      have hb':b=g8:=by simpa using hb
      subst hb';have e1:=H8.out.symm.trans e;exact PK6z2)
     have hrr:RegOk wr p.base p.n2 t.A t.c:=hr15.kp HK.out (fun b hb=>.inr fun cur e=>by
      have hb':b=gC:=hb;subst hb';have e1:=HBC.out.symm.trans e;exact PK6z2)
     obtain⟨⟨xs,hxl,hxi⟩,_⟩:=hrr;obtain⟨rb,ro,hRA,hxc⟩:=hxi.at_ (by have:=HN2.out;rintro rfl;simp at hxl;omega);obtain⟨u,hu⟩:∃u:Nat,u=2*q:=⟨_,rfl⟩;have huI:2*(q:Int)=(u:Int):=om;have hu2:u+1<p.n2:=by have:=HN2.out;omega
     have hu2I:(u:Int)+1<p.n2:=om;have hu1I:(u:Int)<p.n2:=om;have hu0I:(0:Int)<=(u:Int)+1:=om;have r0:=hxc u om;have r1:=hxc (u+1) om;have hN2q:=HN2.out;have hxle:=hxi.len;rw[hxl] at hxle;rw[hRA] at ctr;generalize xs[u]=bv at *;generalize xs[u+1]=ev at *;have hc0:q*2<cs.size:=by have:=HC.out.2;omega
     have hc1:q*2+1<cs.size:=by have:=HC.out.2;omega
     have y0:wr.cell? ⟨gC,q*2,none⟩=some cs[q*2]:=by rw[HC.out.1.cell];exact Array.getElem?_eq_getElem hc0
     have y1:wr.cell? ⟨gC,q*2+1,none⟩=some cs[q*2+1]:=by rw[HC.out.1.cell];exact Array.getElem?_eq_getElem hc1
     have f0:=HC.out.1.frz (q*2);have f1:=HC.out.1.frz (q*2+1);have hw1:IntKind.i64.wrap (u:Int)=(u:Int):=wj;have hw2:IntKind.i64.wrap ((u:Int)+1)=((u+1:Nat):Int):=wj;clear hu hN2q;clear bt15 btr HMr hr15 hxi hxc hRA hxl
     go_upto_region 11 with fail
     have d0:=kc0 ctr;have d1:=kc0 r0;have d2:=kc0 r1;refine Xr.start [] kr ?_;refine Xtk 0 ?_
     iterate 14(refine Xtn ?_)
     refine Xdn fun w17 hE17 hK17=>?_;have K17:=lh (HK.out.trans (KpP.of_ext hE17));have BC17:=lh (HC.out.1.ext hE17);have z0:w17.cell? ⟨gC,q*2,none⟩=some cs[q*2]:=hE17.cell y0;have z1:w17.cell? ⟨gC,q*2+1,none⟩=some cs[q*2+1]:=hE17.cell y1;have zf0:=BC17.out.frz (q*2);have zf1:=BC17.out.frz (q*2+1);have m3:w17.cell? ⟨g8,2,none⟩=some (.slice (some ⟨gC,0,none⟩) k k):=hE17.cell m2;clear d0 d1 d2 y0 y1 f0 f1 m2 ctr r0 r1 hE17 hK17 HFR hw1 hw2 hu2 hu2I hu1I hu0I huI hxle;generalize cs[q*2]=e0 at *;generalize cs[q*2+1]=e1 at *;clear hc0 hc1;have hRel:=fun(v0 v1:Value)=>lh (show(Blk ((w17.setCell ⟨gC,q*2,none⟩ v0).setCell ⟨gC,q*2+1,none⟩ v1) gC 54 ((cs.setIfInBounds (q*2) v0).setIfInBounds (q*2+1) v1)/\((cs.setIfInBounds (q*2) v0).setIfInBounds (q*2+1) v1).size=k*2)/\KpP (·=gC) w15 ((w17.setCell ⟨gC,q*2,none⟩ v0).setCell ⟨gC,q*2+1,none⟩ v1) from⟨⟨(BC17.out.set (q*2) v0).set (q*2+1) v1,by simp[HC.out.2]⟩,(KpP.set (x:=⟨gC,q*2+1,none⟩) (KpP.set (x:=⟨gC,q*2,none⟩) K17.out (.inl rfl) v0) (.inl rfl) v1)⟩);by_cases hb1:bv = -1
     ·have hbb:(bv == -1)=true:=by simp[hb1]
      exact PK6z1
     ·have hbb:(bv == -1)=false:=by simp[hb1]
      by_cases he1:ev = -1
      ·have hee:(ev == -1)=true:=by simp[he1]
       exact PK6z1
      ·have hee:(ev == -1)=false:=by simp[he1]
       exact PK6z1
    ·have hqI:¬(q:Int)<k:=om;have K6r:KpP (SQ g8 g9) w wr:=by
      refine⟨HK.out.os.trans (K15.out.os.trans HK9.out.os),HK.out.tape.trans (K15.out.tape.trans HK9.out.tape),HK.out.output.trans (K15.out.output.trans HK9.out.output),Nat.le_trans HK9.out.size (Nat.le_trans K15.out.size HK.out.size),fun b hb hn=>?_⟩;have h6:=HK9.out.size;rw[HK.out.block b (Nat.lt_of_lt_of_le hb (Nat.le_trans h6 K15.out.size)) (fun e=>by have:=hC6.out;have e':b=gC:=e;omega),K15.out.block b (Nat.lt_of_lt_of_le hb h6) hn];exact HK9.out.block b hb hn
     have H3r:Blk wr g3 153 #[.pointer (some ⟨p.gm,0,none⟩)]:=by
      have h15:=Kp.blk H3.out HK15.out (by simpa using blk_blk H3.out H8.out de);exact HK.out.blk h15 (blk_blk h15 HBC.out de)
     have H9r:Blk wr g9 4 #[.bool true]:=by
      have h15:=Kp.blk H9.out HK15.out (by simpa using blk_blk H9.out H8.out de);exact HK.out.blk h15 (fun e=>HG9.out e.symm)
     have H8r:=HK.out.blk HM8.out h8C;have HSI:Hid (SeI p g3 g8 g9 wr (fd || true) (if true=true then at_ else en)):=lh ⟨H3r,by simpa using H9r,⟨_,_,_,_,by simpa using H8r,fun _=>HFT.out⟩,HS5.out.l⟩;have HKr:=lh K6r;clear H3r H9r H8r K6r
     go_wp2_with fail
     go_ret
     rw[HDT.out];exact⟨rfl,HKr.out,HSI.out⟩
  ·have HDF:Hid (doneG (insL hs) (ths.map Th.pc)=false):=lh (by rw[HD.out,HIS.out];simp[hop]);have ho1:(h.op != 0)=true:=by simp[hop]
   go_wp2_with fail
   go_ret
   rw[HDF.out];exact⟨rfl,KpP.of_ext HX5.out,by simpa using HS5.out⟩
end
section
open Go.RowKit
def stepF (G:List Ins)(N:Nat)(x:Int)(r:(List Nat×List Nat)×Bool)(p:Nat):(List Nat×List Nat)×Bool:=if symAt G x p=true then(if r.2=true then addP G N r.1 (p+1) else r) else r
theorem stepF_stop (G:List Ins)(N:Nat)(x:Int)(s:List Nat×List Nat):∀l:List Nat,l.foldl (stepF G N x) (s,false)=(s,false)
 | []=>rfl
 | p::l=>by
  have e:stepF G N x (s,false) p=(s,false):=by unfold stepF;split<;>rfl
  rw[List.foldl_cons,e];exact stepF_stop G N x s l
theorem stepF_listP (G:List Ins)(N:Nat)(x:Int):∀(l:List Nat) (s:List Nat×List Nat),(l.foldl (stepF G N x) (s,true)).1=listP G N ((l.filter (symAt G x)).map (·+1)) s
 | [],s=>rfl
 | p::l,s=>by
  rw[List.foldl_cons];by_cases h:symAt G x p=true
  ·rw[List.filter_cons_of_pos h,List.map_cons];have e:stepF G N x (s,true) p=addP G N s (p+1):=by unfold stepF;rw[if_pos h,if_pos rfl]
   rw[e];unfold listP;by_cases h2:(addP G N s (p+1)).2=true
   ·rw[if_pos h2];have e2:addP G N s (p+1)=((addP G N s (p+1)).1,true):=by rw[<-h2]
    rw[e2];exact stepF_listP G N x l _
   ·rw[if_neg h2];have h3:(addP G N s (p+1)).2=false:=by simpa using h2
    have e2:addP G N s (p+1)=((addP G N s (p+1)).1,false):=by rw[<-h3]
    rw[e2,stepF_stop]
  ·have hf:symAt G x p=false:=by simpa using h
   rw[List.filter_cons_of_neg h];have e:stepF G N x (s,true) p=(s,true):=by unfold stepF;rw[if_neg h]
   rw[e];exact stepF_listP G N x l s
theorem stepF_next (G:List Ins)(x:Int)(l:List Nat):(l.foldl (stepF G (G.length+1) x) (([],[]),true)).1.1=nextG G l x:=by
 rw[stepF_listP,state_prog]
 rfl
theorem addP_first (G:List Ins):(addP G (G.length+1) ([],[]) 0).1.1=stateG G [0]:=by
 have h:=state_prog G [0];unfold listP at h
 split at h
 ·exact h
 ·exact h
def pkR (G:List Ins):List Int->Nat->St->Bool×Int->Bool×Int
 | ts,k,s,r=>
  let r':=(r.1 || doneG G s,if doneG G s=true then(k:Int) else r.2)
  if s=[] then r' else match ts with
  | []=>r'
  | x::ts=>pkR G ts (k+1) (nextG G s x) r'
theorem fold_nil (G:List Ins):∀ts:List Int,ts.foldl (nextG G) []=[]
 | []=>rfl
 | x::ts=>by rw[List.foldl_cons,nextG_nil];exact fold_nil G ts
theorem pkR_stop {G:List Ins}{ts:List Int}{k:Nat}{s:St}{r:Bool×Int}(h:s=[]\/ts=[]):pkR G ts k s r=(r.1 || doneG G s,if doneG G s=true then(k:Int) else r.2):=by
 unfold pkR;rcases h with h|h
 ·simp[h]
 ·subst h;simp
theorem pkR_go {G:List Ins}{ts:List Int}{x:Int}{k:Nat}{s:St}{r:Bool×Int}(h:s≠[]):pkR G (x::ts) k s r=pkR G ts (k+1) (nextG G s x) (r.1 || doneG G s,if doneG G s=true then(k:Int) else r.2):=by
 conv=>lhs;unfold pkR
 simp[h]
end
section
open Go.RowKit
attribute [local go_sem ↓] Go.wp_at_zero Go.wp_at_succ
theorem OwnS.zero {w:World}{base e size n c:Nat}{A:Option Addr}{xs:List Value}(h:OwnS w base e size A n c xs):OwnS w base e size A 0 c []:=by
 refine⟨by simp,?_⟩;rcases h.form with⟨rfl,rfl,rfl,rfl⟩|⟨g,cur,rfl,h1,h2,h3,h4,h5,h6⟩
 ·exact .inl ⟨rfl,rfl⟩
 ·exact .inr ⟨g,c,cur,rfl,h1,h2,Nat.zero_le _,h4,h5,by simp⟩
theorem setCells_kp (g:Nat):∀(vs:List Value) (o:Nat) (w:World),KpP (·=g) w (w.setCells g o vs)
 | [],_,w=>KpP.refl _ w
 | v::vs,o,w=>(KpP.set (x:=⟨g,o,none⟩) (KpP.refl (·=g) w) (.inl rfl) v).trans (setCells_kp g vs (o+1) (w.setCell ⟨g,o,none⟩ v))
theorem setCells_blk (g T:Nat)(z:Value):∀(n o:Nat) (w:World) (cs:Array Value),Blk w g T cs->o+n<=cs.size->∃ds,Blk (w.setCells g o (List.replicate n z)) g T ds/\ds.size=cs.size/\(∀i,o<=i->i<o+n->ds[i]? = some z)/\∀i,i<o->ds[i]? = cs[i]?
 | 0,o,w,cs,h,_=>⟨cs,h,rfl,fun i h1 h2=>om,fun _ _=>rfl⟩
 | n+1,o,w,cs,h,hn=>by
  obtain⟨ds,h1,h2,h3,h4⟩:=setCells_blk g T z n (o+1) (w.setCell ⟨g,o,none⟩ z) (cs.setIfInBounds o z) (h.set o z) (by simp;omega);refine⟨ds,h1,by rw[h2];simp,fun i i1 i2=>?_,fun i i1=>?_⟩
  ·by_cases e:i=o
   ·subst e;rw[h4 i om];simp[show i<cs.size by omega]
   ·exact h3 i om om
  ·rw[h4 i om];simp[Array.getElem?_setIfInBounds,show ¬o=i by omega]
theorem SeI.keep {p:PkP}{g3 g8 g9:Nat}{w w':World}{A:Option Addr}{c:Nat}{ths:List Th}{sn:List Nat}{mk:Int}{cl fd:Bool}{en:Int}(s:SeI p g3 g8 g9 w fd en)(h:PkI p w A c ths sn mk cl)(k:KpP (PQ p A) w w'):SeI p g3 g8 g9 w' fd en:=by
 obtain⟨s3,s9,⟨st,SA,n,sc,s8,hst⟩,sl⟩:=s;refine⟨h.blk k s3 de de de de,k.blk s9 (fun hq=>?_),⟨st,SA,n,sc,h.blk k s8 de de de de,hst⟩,sl⟩;obtain⟨ms,hM,_⟩:=h.ms;rcases hq with hq|hq|hq|hq
 ·exact blk_blk s9 hM de hq
 ·exact blk_blk s9 h.b10 de hq
 ·have:=h.lb.2;omega
 ·exact own_blk h.o s9 de hq
structure SeJ (p:PkP)(g3 g8 g9 g6:Nat)(w:World)(fd:Bool)(en:Int):Prop where
 s:SeI p g3 g8 g9 w fd en
 b6:Blk w g6 56 #[.int .i64 0,.int .i64 0,.slice none 0 0]
 ne:g6≠g8
theorem SeJ.ext {p:PkP}{g3 g8 g9 g6:Nat}{w w':World}{fd:Bool}{en:Int}(h:SeJ p g3 g8 g9 g6 w fd en)(x:Ext w w'):SeJ p g3 g8 g9 g6 w' fd en:=⟨h.s.ext x,h.b6.ext x,h.ne⟩
theorem SeJ.keep {p:PkP}{g3 g8 g9 g6:Nat}{w w':World}{A:Option Addr}{c:Nat}{ths:List Th}{sn:List Nat}{mk:Int}{cl fd:Bool}{en:Int}(s:SeJ p g3 g8 g9 g6 w fd en)(h:PkI p w A c ths sn mk cl)(k:KpP (PQ p A) w w'):SeJ p g3 g8 g9 g6 w' fd en:=
 ⟨s.s.keep h k,h.blk k s.b6 de de de de,s.ne⟩
theorem SeJ.see {p:PkP}{g3 g8 g9 g6:Nat}{w w':World}{fd fd':Bool}{en en':Int}(s:SeJ p g3 g8 g9 g6 w fd en)(k:KpP (SQ g8 g9) w w')(h:SeI p g3 g8 g9 w' fd' en'):SeJ p g3 g8 g9 g6 w' fd' en':=
 ⟨h,k.blk s.b6 (fun e=>by
  rcases e with e|e
  ·exact s.ne e
  ·exact blk_blk s.b6 s.s.b9 de e),s.ne⟩
theorem PkI.swap {p:PkP}{w:World}{A:Option Addr}{c:Nat}{ths:List Th}{sn:List Nat}{mk:Int}{cl:Bool}(h:PkI p w A c ths sn mk cl){S:Option Addr}{ks d:Nat}{xs:List Value}(hs:OwnS w p.base 262 3 S ks d xs) :
 PkI p (w.setCell ⟨p.g10,0,none⟩ (.slice S 0 d)) S d [] [] (mk+1) cl:=by
 obtain⟨h1,h2,h3,h4,h5,h6,h7,h8,⟨ms,h9,h10,h10'⟩,h11,h12,h13,h14,h15⟩:=h;have d2:=blk_blk h2 h6 de;have d3:=blk_blk h3 h6 de;have d4:=blk_blk h4 h6 de;have d5:=blk_blk h5 h6 de;have d9:=blk_blk h9 h6 de;have b10:Blk (w.setCell ⟨p.g10,0,none⟩ (.slice S 0 d)) p.g10 260 #[.slice S 0 d]:=by simpa using h6.set 0 (.slice S 0 d)
 refine⟨h1.setNew (by show p.w0.heap.size<=p.g10;omega) _,h2.far d2 _,h3.far d3 _,h4.far d4 _,h5.far d5 _,b10,OwnS.far hs.zero (own_blk hs h6 de) _,by simp,⟨ms,h9.far d9 _,h10,fun i hi=>?_⟩,h11,h12,by simp,KpP.set (x:=⟨p.g10,0,none⟩) h14 (.inr (by show p.w1.heap.size<=p.g10;omega)) _,h15⟩;have:=(h10' i hi).2;exact⟨⟨fun e=>om,by simp⟩,om⟩
theorem close_pt {p:PkP}(w:World)(A:Option Addr)(b:Bool):PT p A w A (w.setCell ⟨p.g13,0,none⟩ (.bool b)):=⟨KpP.set (x:=⟨p.g13,0,none⟩) (KpP.refl _ _) (.inl (.inr (.inr (.inl rfl)))) _,.inl rfl⟩
structure SpOp (p:PkP)(w:World)(A S:Option Addr)(d:Nat)(ths:List Th):Prop where
 o:OwnS w p.base 262 3 S ths.length d (flatT p.n2 ths)
 rg:∀t∈ths,RegOk w p.base p.n2 t.A t.c
 ap:∀b,S.map (·.block)=some b->A.map (·.block)≠some b
 ff:∀t∈ths,t.fr=p.fr
theorem SpOp.ext {p:PkP}{w w':World}{A S:Option Addr}{d:Nat}{ths:List Th}(h:SpOp p w A S d ths)(x:Ext w w'):SpOp p w' A S d ths:=⟨OwnS.ext h.o x,fun t ht=>(h.rg t ht).ext x,h.ap,h.ff⟩
theorem SpOp.keep {p:PkP}{w w':World}{A A' S:Option Addr}{d c:Nat}{ts ths:List Th}{sn:List Nat}{mk:Int}{cl:Bool}(s:SpOp p w A S d ts)(h:PkI p w A c ths sn mk cl)(k:PT p A w A' w'):SpOp p w' A' S d ts:=by
 obtain⟨ms,hM,_⟩:=h.ms;refine⟨OwnS.kp s.o k.kp (fun b hb hq=>?_),fun t ht=>h.reg k.kp (s.rg t ht),fun b hb e=>?_,s.ff⟩
 ·rcases hq with hq|hq|hq|hq
  ·subst hq;exact own_blk s.o hM de hb
  ·subst hq;exact own_blk s.o h.b10 de hb
  ·subst hq;exact own_blk s.o h.b13 de hb
  ·exact s.ap b hb hq
 ·rcases k.nw with e2|e2
  ·exact s.ap b hb (by rw[<-e2];exact e)
  ·have h1:=e2 b e;have h2:=(OwnS.blt s.o hb).1;omega
theorem RegOk.see {p:PkP}{g3 g8 g9:Nat}{w w':World}{fd:Bool}{en:Int}{base n2 c:Nat}{A:Option Addr}(h:RegOk w base n2 A c)(s:SeI p g3 g8 g9 w fd en)(k:KpP (SQ g8 g9) w w'):RegOk w' base n2 A c:=by
 obtain⟨_,s9,⟨st,SA,sn',sc,s8,hst⟩,sl⟩:=s;refine h.kp k (fun b hb=>.inr fun cur e=>?_);rcases hb with rfl|rfl
 ·have e1:=s8.symm.trans e;injection e1 with e1;injection e1 with _ e1;exact absurd e1 de
 ·have e1:=s9.symm.trans e;injection e1 with e1;injection e1 with _ e1;exact absurd e1 de
theorem SpOp.see {p:PkP}{g3 g8 g9:Nat}{w w':World}{fd:Bool}{en:Int}{A S:Option Addr}{d:Nat}{ths:List Th}(h:SpOp p w A S d ths)(s:SeI p g3 g8 g9 w fd en)(k:KpP (SQ g8 g9) w w'):SpOp p w' A S d ths:=by
 refine⟨OwnS.kp h.o k (fun b hb e=>?_),fun t ht=>(h.rg t ht).see s k,h.ap,h.ff⟩;obtain⟨_,s9,⟨st,SA,sn',sc,s8,hst⟩,sl⟩:=s;rcases e with e|e
 ·subst e;exact own_blk h.o s8 de hb
 ·subst e;exact own_blk h.o s9 de hb
theorem swap_kp {p:PkP}{A S:Option Addr}{d:Nat}(w:World):KpP (PQ p A) w (w.setCell ⟨p.g10,0,none⟩ (.slice S 0 d)):=KpP.set (x:=⟨p.g10,0,none⟩) (KpP.refl _ _) (.inl (.inr (.inl rfl))) _
theorem SpOp.swap {p:PkP}{w:World}{A S:Option Addr}{c d:Nat}{ths sp:List Th}{sn:List Nat}{mk:Int}{cl:Bool}(h:PkI p w A c ths sn mk cl)(hs:SpOp p w A S d sp):SpOp p (w.setCell ⟨p.g10,0,none⟩ (.slice S 0 d)) S A c ths:=
 ⟨OwnS.far h.o (own_blk h.o h.b10 de) _,fun t ht=>h.reg (swap_kp w) (h.rg t ht),fun b hb e=>hs.ap b e hb,h.ff⟩
theorem egPSee:∀args w,(callFunc 150 args).run Tryz.prog w=.ok (.enter 150 args) w:=enters_of Tryz.func150 kr rfl
end
end Go.Proofs.YtmgpefenkilffaaGreat
