/- Texts of this proof: P7 G27 G28. -/
import Derived.Test.YtmocoldobnimfaaGreatU19
set_option linter.all false
namespace Go.Proofs.YtmocoldobnimfaaGreat
section
open Go.RowKit
theorem okL_goodc {l:List Sp}(h:OkL l):∀s∈l,goodS s:=(okL_canon h).2
theorem okl_canonc {l:List Sp}(h:OkL l):Canon l:=(okL_canon h).1
theorem keysU_in2 {ls:List (List Sp)}{E:List Int}{k:Nat}:∀i,k<i→vec ls (E.getD k 0)∈keysU ls E i
 | 0,h=>absurd h (Nat.not_lt_zero _)
 | i+1,h=>by
  unfold keysU;by_cases hk:k=i
  ·subst hk
   split
   ·assumption
   ·simp
  ·have ih:=keysU_in2 (ls:=ls) (E:=E) (k:=k) i om
   split
   ·exact ih
   ·exact List.mem_append_left _ ih
theorem getD_in2 {E:List Int}{i:Nat}(h:i<E.length):E.getD i 0=E[i]:=by simp[List.getD_eq_getElem?_getD,h]
structure ClOk (LS:List (List Sp))(t:Int):Prop where
 ok:∀a∈LS,OkL a
 top:0≤t∧t≤1114111
namespace ClOk
variable {LS:List (List Sp)} {t:Int}
theorem eok (h:ClOk LS t):EndsOk (endsT t LS) t LS.flatten:=endsT_ok h.top.1 (fun s hs=>by
 obtain⟨a,ha,hs⟩:=List.mem_flatten.1 hs;have:=okL_goodc (h.ok a ha) s hs;unfold goodS at this;omega)
theorem einn (h:ClOk LS t):∀a∈LS,EndsIn a (endsT t LS) t:=fun a ha s hs=>h.eok.inn s (List.mem_flatten.2 ⟨a,ha,hs⟩)
theorem mem (h:ClOk LS t)(v:List Bool)(x:Int):has (Go.Proofs.YtmocoldobnimfaaGreat.cls (endsT t LS) t (fun y=>decide (vec LS y=v))) x=(decide (vec LS x=v)&&decide (0≤x∧x≤t)):=by
 have hs:Steady (endsT t LS) t (fun y=>decide (vec LS y=v)):=steady_of h.einn (fun bs=>decide (bs=v));exact ref_has h.top.1 (fun s hs=>by
  obtain⟨a,ha,hs⟩:=List.mem_flatten.1 hs;have:=okL_goodc (h.ok a ha) s hs;unfold goodS at this;omega) hs x
theorem canon (h:ClOk LS t)(p:Int→Bool):Canon (Go.Proofs.YtmocoldobnimfaaGreat.cls (endsT t LS) t p):=(cls_canon h.eok.ends p).1
theorem okl (h:ClOk LS t)(p:Int→Bool):OkL (Go.Proofs.YtmocoldobnimfaaGreat.cls (endsT t LS) t p):=canon_okL (h.canon p) (cls_good h.eok.ends h.eok.head (by have:=h.top;omega) p)
theorem key (h:ClOk LS t){x:Int}(hx:0≤x∧x≤t):∃j,∃hj:j<(endsT t LS).length,(endsT t LS)[j]≤x∧vec LS (endsT t LS)[j]=vec LS x:=by
 obtain⟨s,hs,h1,h2⟩:=segsT_has h.eok.ends 0 h.eok.head x hx.1 hx.2;obtain⟨h3,_,h5,h6⟩:=segsT_mem h.eok.ends s hs;obtain⟨j,hj,e⟩:=List.getElem_of_mem h3;refine⟨j,hj,om,?_⟩;rw[e];unfold vec;refine List.map_congr_left (fun a ha=>?_);exact(has_steady (h.einn a ha) s.1 x h1 hx.2 (fun y hy hh=>h6 y hy ⟨hh.1,om⟩)).symm
theorem key_in (h:ClOk LS t){x:Int}(hx:0≤x∧x≤t):vec LS x∈keysU LS (endsT t LS) (endsT t LS).length:=by
 obtain⟨j,hj,_,e⟩:=h.key hx;have:=keysU_in2 (ls:=LS) (E:=endsT t LS) (k:=j) (endsT t LS).length hj;rw[getD_in2 hj,e] at this;exact this
theorem len_keys:(classes LS t).length=(keysU LS (endsT t LS) (endsT t LS).length).length:=by unfold classes;simp
theorem get {i:Nat}(hi:i<(classes LS t).length):(classes LS t)[i]=Go.Proofs.YtmocoldobnimfaaGreat.cls (endsT t LS) t (fun y=>decide (vec LS y=(keysU LS (endsT t LS) (endsT t LS).length)[i]'(by rw[←len_keys];exact hi))):=by
 have hk:i<(keysU LS (endsT t LS) (endsT t LS).length).length:=by rw[←len_keys];exact hi
 exact List.getElem_map (l:=keysU LS (endsT t LS) (endsT t LS).length) (fun v=>Go.Proofs.YtmocoldobnimfaaGreat.cls (endsT t LS) t (fun y=>decide (vec LS y=v))) (h:=by rw[List.length_map];exact hk)
theorem cmem (h:ClOk LS t){i:Nat}(hi:i<(classes LS t).length)(x:Int):has (classes LS t)[i] x=(decide (vec LS x=(keysU LS (endsT t LS) (endsT t LS).length)[i]'(by rw[←len_keys];exact hi))&&decide (0≤x∧x≤t)):=by
 rw[ClOk.get hi,h.mem]
theorem cok (h:ClOk LS t){i:Nat}(hi:i<(classes LS t).length):OkL (classes LS t)[i]:=by rw[ClOk.get hi];exact h.okl _
theorem clen {i:Nat}(hi:i<(classes LS t).length):(classes LS t)[i].length≤(endsT t LS).length:=by
 rw[ClOk.get hi,←clsU_all];exact clsU_len
theorem keys_ne {i k:Nat}(hki:k<i)(hi:i<(classes LS t).length)(hk:k<(classes LS t).length):(keysU LS (endsT t LS) (endsT t LS).length)[i]'(by rw[←len_keys];exact hi)≠(keysU LS (endsT t LS) (endsT t LS).length)[k]'(by rw[←len_keys];exact hk):=by
 have hn:=keysU_nodup LS (endsT t LS) (endsT t LS).length;intro e;have:=List.pairwise_iff_getElem.1 hn k i (by rw[←len_keys];exact hk) (by rw[←len_keys];exact hi) hki;exact this e.symm
end ClOk
theorem vec_has {LS:List (List Sp)}{x y:Int}(h:vec LS x=vec LS y):∀a∈LS,has a x=has a y:=fun a ha=>List.map_inj_left.1 h a ha
def setsOf (G:List Ins):List (List Sp):=(G.filter (fun i=>decide (i.op=1))).map (·.set)
theorem setsOf_mem {G:List Ins}{a:List Sp}:a∈setsOf G↔∃i∈G,i.op=1∧i.set=a:=by
 unfold setsOf;simp[List.mem_map,List.mem_filter,and_assoc]
theorem topV_rng (runes:Bool):0≤topV runes∧topV runes≤1114111:=by
 cases runes<;>simp[topV]
theorem GOk.set_ok {runes:Bool}{caps:Int}{G:List Ins}(h:GOk runes caps G){i:Ins}(hi:i∈G)(ho:i.op=1):validE i.set=0:=by
 obtain⟨k,hk,rfl⟩:=List.mem_iff_getElem.1 hi;obtain⟨_,_,_,_,h5⟩:=h.ins k hk;rcases h5 with h5|h5|h5|h5|h5|h5
 ·omega
 ·exact h5.2.1
 ·omega
 ·omega
 ·omega
 ·omega
theorem GOk.clOk {runes:Bool}{caps:Int}{G:List Ins}(h:GOk runes caps G):ClOk (setsOf G) (topV runes):=
 ⟨fun a ha=>by
  obtain⟨i,hi,ho,rfl⟩:=setsOf_mem.1 ha;exact(validE_zero (h.set_ok hi ho)).1,topV_rng runes⟩
def keptG (runes:Bool)(G:List Ins):List (List Sp):=keepC runes (classes (setsOf G) (topV runes))
def symsP (runes:Bool)(G:List Ins):List Int:=(keptG runes G).map (smpP runes)
def symsR (runes:Bool)(G:List Ins):List Int:=(keptG runes G).map (smpR runes)
theorem kept_mem {runes:Bool}{G:List Ins}{c:List Sp}(h:c∈keptG runes G):c∈classes (setsOf G) (topV runes)∧(endsL c).any (symV runes)=true:=by
 unfold keptG keepC at h;rw[List.mem_filter] at h;exact h
theorem class_alike {runes:Bool}{caps:Int}{G:List Ins}(hG:GOk runes caps G){c:List Sp}(hc:c∈classes (setsOf G) (topV runes)){a b:Int}(ha:has c a=true)(hb:has c b=true)(l:St):nextG G l a=nextG G l b:=by
 obtain⟨i,hi,rfl⟩:=List.mem_iff_getElem.1 hc;rw[hG.clOk.cmem hi,Bool.and_eq_true,decide_eq_true_iff] at ha hb;have hv:=ha.1.trans hb.1.symm;exact nextG_alike (fun x hx ho=>vec_has hv _ (setsOf_mem.2 ⟨x,hx,ho,rfl⟩)) l
theorem class_le {runes:Bool}{caps:Int}{G:List Ins}(hG:GOk runes caps G){c:List Sp}(hc:c∈classes (setsOf G) (topV runes)):∀s∈c,s.1≤s.2:=by
 obtain⟨i,hi,rfl⟩:=List.mem_iff_getElem.1 hc;intro s hs;exact(okl_canonc (hG.clOk.cok hi)).1 s hs
theorem smp_alike {runes:Bool}{caps:Int}{G:List Ins}(hG:GOk runes caps G){c:List Sp}(hc:c∈keptG runes G)(l:St):nextG G l (smpP runes c)=nextG G l (smpR runes c):=by
 obtain⟨h1,h2⟩:=kept_mem hc;exact class_alike hG h1 (endsL_has (class_le hG h1) (smpP_in h2).1) (endsL_has (class_le hG h1) (smpR_in h2).1) l
theorem sym_class {runes:Bool}{caps:Int}{G:List Ins}(hG:GOk runes caps G){x:Int}(hx:symV runes x=true):∃k,∃hk:k<(keptG runes G).length,has (keptG runes G)[k] x=true:=by
 have hr:0≤x∧x≤topV runes:=by
  unfold symV at hx;unfold topV;cases runes
  ·simpa using hx
  ·simp only[if_true,Bool.or_eq_true,decide_eq_true_eq] at hx ⊢;omega
 obtain⟨i,hi,e⟩:=List.getElem_of_mem (hG.clOk.key_in hr);have hic:i<(classes (setsOf G) (topV runes)).length:=by rw[ClOk.len_keys];exact hi
 have hh:has (classes (setsOf G) (topV runes))[i] x=true:=by
  rw[hG.clOk.cmem hic,←e,decide_eq_true rfl,decide_eq_true hr];rfl
 have hm:=List.getElem_mem hic;have hok:=hG.clOk.cok hic;generalize (classes (setsOf G) (topV runes))[i]=c at *;obtain⟨y,hy,hv⟩:=endsL_any (runes:=runes) (c:=c) (fun s hs=>by
  have h1:=okL_goodc hok s hs;unfold goodS at h1;refine⟨h1.1,?_⟩;have h2:has c s.2=true:=has_iff.2 ⟨s,hs,h1.2.1,Int.le_refl _⟩;obtain⟨j,hj,rfl⟩:=List.mem_iff_getElem.1 hm;rw[hG.clOk.cmem hj,Bool.and_eq_true,decide_eq_true_iff,decide_eq_true_iff] at h2;exact h2.2.2) hh hx
 have hk:c∈keptG runes G:=List.mem_filter.2 ⟨hm,List.any_eq_true.2 ⟨y,hy,hv⟩⟩;obtain⟨k,hkl,rfl⟩:=List.mem_iff_getElem.1 hk;exact⟨k,hkl,hh⟩
theorem classes_apart {runes:Bool}{caps:Int}{G:List Ins}(hG:GOk runes caps G):(classes (setsOf G) (topV runes)).Pairwise (fun a b=>∀x,has a x=true→has b x=true→False):=by
 rw[List.pairwise_iff_getElem];intro i j hi hj hij x h1 h2;rw[hG.clOk.cmem hi,Bool.and_eq_true,decide_eq_true_iff] at h1;rw[hG.clOk.cmem hj,Bool.and_eq_true,decide_eq_true_iff] at h2;exact ClOk.keys_ne hij hj hi (h2.1.symm.trans h1.1)
theorem kept_apart {runes:Bool}{caps:Int}{G:List Ins}(hG:GOk runes caps G)(x:Int)(k k':Nat)(hk:k<(keptG runes G).length)(hk':k'<(keptG runes G).length)(h1:has (keptG runes G)[k] x=true)(h2:has (keptG runes G)[k'] x=true):k=k':=by
 have hp:(keptG runes G).Pairwise (fun a b=>∀x,has a x=true→has b x=true→False):=(classes_apart hG).filter _;rw[List.pairwise_iff_getElem] at hp;rcases Nat.lt_trichotomy k k' with h|h|h
 ·exact(hp k k' hk hk' h x h1 h2).elim
 ·exact h
 ·exact(hp k' k hk' hk h x h2 h1).elim
def stsG (G:List Ins)(cs:List Int):Option (List St):=expl (fun l=>cs.map (nextG G l)) 1030 0 (grow [] (stateG G [0]))
theorem stsG_alike {runes:Bool}{caps:Int}{G:List Ins}(hG:GOk runes caps G):stsG G (symsP runes G)=stsG G (symsR runes G):=by
 unfold stsG;refine expl_congr (fun l=>?_) _ _ _;unfold symsP symsR;rw[List.map_map,List.map_map];exact List.map_congr_left (fun c hc=>smp_alike hG hc l)
open Classical in
noncomputable def newE (runes:Bool) (caps:Int) (G:List Ins):Int:=
 if chkE runes caps G≠0 then chkE runes caps G else if splitE (setsOf G) (topV runes)≠0 then splitE (setsOf G) (topV runes) else
  match stsG G (symsP runes G) with|none=>4|some _=>0
end
section
open Go.RowKit
def lastOf (top:Int):List Sp→Int
 | []=>top
 | p::_=>p.1-1
structure SpI (wr:World)(base gW gM:Nat)(ls:List (List Sp))(E:List Int)(top:Int)(m:List Sp)(i:Nat)(x:Int)(pre rem:List Sp)(ws:List Int)(ents:List (K16×Int))(O:Option Addr)(cO:Nat)(hs:List Hs):Prop where
 cut:m=pre++rem∧(∀p∈pre,p.1<x)∧∀p∈rem,x≤p.1
 rep:WRep ws (par pre)
 blk:Blk wr gW 204 (ws.map (Value.int .u64)).toArray
 map:MapAt wr gM k16V (Value.int .i64) ents
 elen:ents.length=(keysU ls E i).length
 keys:∀n (h:n<ents.length),ents[n].2=(n:Int)∧WRep ents[n].1.1 (fun q=>((keysU ls E i).getD n []).getD q false)
 out:SO wr base O cO hs
 hlen:hs.length=(keysU ls E i).length
 cls:∀n (h:n<hs.length),hs[n].l=clsU ls E top ((keysU ls E i).getD n []) i
theorem cut_next {E:List Int}{m pre rem:List Sp}{top:Int}{i:Nat}(h:EvOk E m top)(hi:i<E.length)(hc:Cut m pre rem E[i]):m=pre++rem∧(∀p∈pre,p.1<lastOf top rem+1)∧∀p∈rem,lastOf top rem+1≤p.1:=by
 obtain⟨hm,h1,h2⟩:=hc;refine⟨hm,fun p hp=>?_,fun p hp=>?_⟩
 ·cases rem with
  | nil=>
   have:=h.ends.le _ (h.mem p (by rw[hm];simp[hp]));simp only[lastOf];omega
  | cons r rem=>
   have h3:=h1 p hp;have h4:=h2 r si;simp only[lastOf];omega
 ·cases rem with
  | nil=>simp at hp
  | cons r rem=>
   have hs:=h.srt;rw[hm] at hs;have h3:=(List.pairwise_append.1 hs).2.1;simp only[lastOf];rcases List.mem_cons.1 hp with rfl|h4
   ·omega
   ·have:=(List.pairwise_cons.1 h3).1 p h4;omega
theorem SpI.old {wr wA:World}{base gW gM i n g c' cO:Nat}{ls:List (List Sp)}{E:List Int}{top:Int}{m pre rem:List Sp}{ws:List Int}{ents:List (K16×Int)}{O A':Option Addr}{hs:List Hs}
 (hE:EvOk E m top) (hi:i<E.length) (hblk:Blk wr gW 204 (ws.map (Value.int .u64)).toArray) (hmap:MapAt wr gM k16V (Value.int .i64) ents) (hso:SO wr base O cO hs)
 (hrep:WRep ws (par pre)) (hcut:Cut m pre rem E[i])
 (hel:ents.length=(keysU ls E i).length) (hek:∀n (h:n<ents.length),ents[n].2=(n:Int)∧WRep ents[n].1.1 (fun q=>((keysU ls E i).getD n []).getD q false))
 (hl:hs.length=(keysU ls E i).length) (hc:∀k (h:k<hs.length),hs[k].l=clsU ls E top ((keysU ls E i).getD k []) i)
 (hn:n<hs.length) (hk:(keysU ls E i)[n]'om=vec ls E[i]) (kA:KpP (fun b=>hs[n].A.map (·.block)=some b) wr wA) (hO:O=some ⟨g,0,none⟩) (v:Value)
 (hso2:SO (wA.setCell ⟨g,n,none⟩ v) base O cO (hs.set n ⟨A',c',addS (clsU ls E top (vec ls E[i]) i) (E[i],lastOf top rem)⟩)) :
 SpI (wA.setCell ⟨g,n,none⟩ v) base gW gM ls E top m (i+1) (lastOf top rem+1) pre rem ws ents O cO (hs.set n ⟨A',c',addS (clsU ls E top (vec ls E[i]) i) (E[i],lastOf top rem)⟩):=by
 have hmem:vec ls E[i]∈keysU ls E i:=by rw[←hk];exact List.getElem_mem _
 have hko:=keys_old hi hmem;have hnx:(if h:i+1<E.length then E[i+1]-1 else top)=lastOf top rem:=(hE.next hi hcut).trans (by cases rem<;>rfl);have hst:=step_old (A':=A') (c':=c') (top:=top) hi hl hn hk hc;rw[hnx] at hst;have hpn:=hso.each _ (List.getElem_mem hn);have hgo:O.map (·.block)=some g:=by rw[hO];rfl
 have kk:KpP (fun b=>hs[n].A.map (·.block)=some b∨b=g) wr (wA.setCell ⟨g,n,none⟩ v):=
  (KpP.mono kA (fun b hb=>.inl hb)).trans (KpP.set (p:=fun b=>hs[n].A.map (·.block)=some b∨b=g) (x:=⟨g,n,none⟩) (KpP.of_ext (Ext.rfl' _)) (.inl (.inr rfl)) v)
 have hbW:hs[n].A.map (·.block)≠some gW:=own_blk hpn hblk de;have hgW:gW≠g:=fun e=>own_blk hso.own hblk de (by rw[hgo,e]);have hgM:¬(hs[n].A.map (·.block)=some gM∨gM=g):=by
  rintro(e|e)
  ·obtain⟨_,cur,hh⟩:=OwnS.blt hpn e;exact hmap.ne (g:=gM) (T:=_) (cs:=_) hh rfl
  ·obtain⟨_,cur,hh⟩:=OwnS.blt hso.own hgo;exact hmap.ne (g:=g) (T:=_) (cs:=_) hh e
 refine⟨cut_next hE hi hcut,hrep,?_,hmap.kp kk hgM,by rw[hko];exact hel,by rw[hko];exact hek,hso2,by rw[hko,List.length_set];exact hl,hst⟩;unfold Blk at hblk ⊢;rw[kk.block gW (Blk.lt hblk) (fun e=>e.elim hbW hgW)];exact hblk
end
section
open Go.RowKit
theorem SO.kpm {w w':World}{base cO g:Nat}{O:Option Addr}{hs:List Hs}{kv:K16→Value}{vv:Int→Value}{l:List (K16×Int)}(h:SO w base O cO hs)(hm:MapAt w g kv vv l)(k:KpP (·=g) w w'):SO w' base O cO hs:=
 ⟨OwnS.kp h.own k (fun b hA e=>by
  obtain⟨_,cur,hh⟩:=OwnS.blt h.own hA;exact hm.ne hh e.symm),fun z hz=>(h.each z hz).kp k (fun b hA e=>by
  obtain⟨_,cur,hh⟩:=OwnS.blt (h.each z hz) hA;exact hm.ne hh e.symm),h.apart⟩
theorem putW {P:Program}{t k e:Nat}{w:World}{b:Nat}{kv:K16→Value}{vv:Int→Value}{l:List (K16×Int)}(h:MapAt w b kv vv l)(K:KLaw P k kv)(ht:P.underlying t=some (.map k e))(x:K16)(v:Int) :
 ∃w',(Instr.mapUpdate t (.map (some b)) (kv x) (vv v)).run P w=.ok () w'∧MapAt w' b kv vv (putL l x v)∧KpP (·=b) w w':=by
 obtain⟨o,h1,h2⟩:=h.put K ht x v;exact⟨_,h1,h2,kp_setBlock _ _ _⟩
theorem SpI.new {wS:World}{base gW gM i c' cO:Nat}{ls:List (List Sp)}{E:List Int}{top:Int}{m pre rem:List Sp}{ws:List Int}{ents:List (K16×Int)}{O A':Option Addr}{hs:List Hs}
 (hE:EvOk E m top) (hi:i<E.length) (hw:ws.length=16) (hblk:Blk wS gW 204 (ws.map (Value.int .u64)).toArray) (hmap:MapAt wS gM k16V (Value.int .i64) (ents++[((⟨ws,hw⟩:K16),(hs.length:Int))]))
 (hrep:WRep ws (par pre)) (hrv:WRep ws (fun q=>(vec ls E[i]).getD q false)) (hcut:Cut m pre rem E[i])
 (hel:ents.length=(keysU ls E i).length) (hek:∀n (h:n<ents.length),ents[n].2=(n:Int)∧WRep ents[n].1.1 (fun q=>((keysU ls E i).getD n []).getD q false))
 (hl:hs.length=(keysU ls E i).length) (hc:∀k (h:k<hs.length),hs[k].l=clsU ls E top ((keysU ls E i).getD k []) i)
 (hk:vec ls E[i]∉keysU ls E i)
 (hso2:SO wS base O cO (hs++[(⟨A',c',addS [] (E[i],lastOf top rem)⟩:Hs)])) :
 SpI wS base gW gM ls E top m (i+1) (lastOf top rem+1) pre rem ws (ents++[((⟨ws,hw⟩:K16),(hs.length:Int))]) O cO (hs++[(⟨A',c',addS [] (E[i],lastOf top rem)⟩:Hs)]):=by
 have hkn:=keys_new hi hk;have hnx:(if h:i+1<E.length then E[i+1]-1 else top)=lastOf top rem:=(hE.next hi hcut).trans (by cases rem<;>rfl);have hst:=step_new (A':=A') (c':=c') (top:=top) hi hl hk hc;rw[hnx] at hst;refine⟨cut_next hE hi hcut,hrep,hblk,hmap,by rw[hkn,List.length_append,List.length_append,hel];rfl,fun n h=>?_,hso2,by rw[hkn,List.length_append,List.length_append,hl];rfl,hst⟩;rw[hkn];rw[List.length_append,List.length_singleton] at h;by_cases hn:n<ents.length
 ·rw[List.getElem_append_left hn];have hd:(keysU ls E i++[vec ls E[i]]).getD n []=(keysU ls E i).getD n []:=by
   rw[List.getD_eq_getElem?_getD,List.getElem?_append_left om,←List.getD_eq_getElem?_getD]
  rw[hd];exact hek n hn
 ·obtain rfl:n=ents.length:=om;have hd:(keysU ls E i++[vec ls E[i]]).getD ents.length []=vec ls E[i]:=by
   rw[List.getD_eq_getElem?_getD,List.getElem?_append_right om,hel]
   simp
  rw[hd,List.getElem_append_right (Nat.le_refl _)];simp only[Nat.sub_self,List.getElem_cons_zero];exact⟨by rw[hl,hel],hrv⟩
theorem SO.putNew {w w':World}{base cO:Nat}{O:Option Addr}{hs:List Hs}(h:SO w base O cO (hs++[(⟨none,0,[]⟩:Hs)])){A':Option Addr}{c':Nat}{l':List Sp}(k:KpP (fun b=>(none:Option Addr).map (·.block)=some b) w w')(ho:OwnP w' base A' c' l')
 (hat:A'.map (·.block)=(none:Option Addr).map (·.block)∨∃b,A'.map (·.block)=some b∧w.heap.size≤b) :
 ∃g,O=some ⟨g,0,none⟩∧base≤g∧w'.cell? ⟨g,hs.length,none⟩=some (.slice none 0 0)∧w'.frozen? ⟨g,hs.length,none⟩=false∧SO (w'.setCell ⟨g,hs.length,none⟩ (.slice A' l'.length c')) base O cO (hs++[(⟨A',c',l'⟩:Hs)]):=by
 have hn:hs.length<(hs++[(⟨none,0,[]⟩:Hs)]).length:=by simp
 have he:(hs++[(⟨none,0,[]⟩:Hs)])[hs.length]'hn=⟨none,0,[]⟩:=by simp
 obtain⟨g,h1,h2,h3,h4,h5⟩:=h.put (n:=hs.length) hn (w':=w') (A':=A') (c':=c') (l':=l') (by rw[he];exact k) ho (by rw[he];exact hat);rw[he] at h3;refine⟨g,h1,h2,h3,h4,?_⟩;rw[List.set_append_right _ _ (Nat.le_refl _)] at h5
 simpa using h5
theorem new_kept {wp w4 wA:World}{base gW gM eb cO cE n:Nat}{O E2:Option Addr}{hs hs2:List Hs}{ents:List (K16×Int)}{ws:List Int}{ob:Obj}(hmp:MapAt wp gM k16V (Value.int .i64) ents)(hb:Blk wp gW 204 (ws.map (Value.int .u64)).toArray)(h1:SO wp base O cO hs)
 (hg:(wp.alloc ob).grownBy w4 (O.map (·.block))) (h4:SO w4 base E2 cE hs2) (hE:E2=some ⟨eb,0,none⟩) (kA:KpP (fun b=>(none:Option Addr).map (·.block)=some b) w4 wA) (v:Value) :
 MapAt (wA.setCell ⟨eb,n,none⟩ v) gM k16V (Value.int .i64) ents∧Blk (wA.setCell ⟨eb,n,none⟩ v) gW 204 (ws.map (Value.int .u64)).toArray:=by
 have hnM:O.map (·.block)≠some gM:=fun e=>by
  obtain⟨_,cur,hh⟩:=OwnS.blt h1.own e;exact hmp.ne hh rfl
 have hnW:=own_blk h1.own hb de;have k4:KpP (fun b=>O.map (·.block)=some b) wp w4:=(KpP.of_ext (Ext.alloc _ _)).trans (KpP.of_grown hg);have m4:=hmp.kp k4 hnM;have b4:Blk w4 gW 204 (ws.map (Value.int .u64)).toArray:=k4.blk hb hnW;have mA:=m4.kp kA si;have bA:Blk wA gW 204 (ws.map (Value.int .u64)).toArray:=kA.blk b4 si;have hEb:E2.map (·.block)=some eb:=by rw[hE];rfl
 have hM:gM≠eb:=fun e=>by
  obtain⟨_,cur,hh⟩:=OwnS.blt h4.own hEb;exact m4.ne hh e
 have hW:gW≠eb:=fun e=>own_blk h4.own b4 de (by rw[hEb,e]);have kS:KpP (·=eb) wA (wA.setCell ⟨eb,n,none⟩ v):=KpP.set (p:=(·=eb)) (x:=⟨eb,n,none⟩) (KpP.of_ext (Ext.rfl' _)) (.inl rfl) v;exact⟨mA.kp kS hM,kS.blk bA hW⟩
theorem clsU_mono {ls:List (List Sp)}{E:List Int}{top:Int}{v:List Bool}{i:Nat}:∀j,i≤j→j≤E.length→(clsU ls E top v i).length≤(clsU ls E top v j).length
 | 0,h,_=>by
  obtain rfl:i=0:=om;exact Nat.le_refl _
 | j+1,h,hj=>by
  rcases Nat.lt_or_ge j i with h1|h1
  ·obtain rfl:i=j+1:=om;exact Nat.le_refl _
  ·have ih:=clsU_mono (ls:=ls) (E:=E) (top:=top) (v:=v) j h1 om;rw[clsU_succ (show j<E.length by omega)]
   split
   ·exact Nat.le_trans ih (addS_len _ _).1
   ·exact ih
theorem keysU_get {ls:List (List Sp)}{E:List Int}{i n:Nat}(hn:n<(keysU ls E i).length):∀j,i≤j→n<(keysU ls E j).length∧(keysU ls E j).getD n []=(keysU ls E i).getD n []
 | 0,h=>by
  obtain rfl:i=0:=om;exact⟨hn,rfl⟩
 | j+1,h=>by
  rcases Nat.lt_or_ge j i with h1|h1
  ·obtain rfl:i=j+1:=om;exact⟨hn,rfl⟩
  ·obtain⟨h2,h3⟩:=keysU_get hn j h1;rw[keysU]
   split
   ·exact⟨h2,h3⟩
   ·refine⟨by rw[List.length_append];omega,?_⟩
    rw[←h3,List.getD_eq_getElem?_getD,List.getElem?_append_left h2,←List.getD_eq_getElem?_getD]
theorem split_4 {LS:List (List Sp)}{E:List Int}{top:Int}{i n:Nat}(hC:classes LS top=(keysU LS E E.length).map (fun v=>cls E top (fun x=>decide (vec LS x=v))))
 (hS:splitE LS top=if(classes LS top).any (fun a=>decide (64<a.length))=true then 4 else 0) (hi:i≤E.length) (hn:n<(keysU LS E i).length) (h:64<(clsU LS E top ((keysU LS E i).getD n []) i).length):splitE LS top=4:=by
 rw[hS,if_pos];rw[List.any_eq_true,hC];obtain⟨h2,h3⟩:=keysU_get hn E.length hi;have h4:(keysU LS E E.length)[n]=(keysU LS E i).getD n []:=by rw[←h3];simp[List.getD_eq_getElem?_getD,h2]
 refine⟨_,List.mem_map.2 ⟨(keysU LS E E.length)[n],List.getElem_mem h2,rfl⟩,?_⟩
 rw[←clsU_all,h4,decide_eq_true_iff];exact Nat.lt_of_lt_of_le h (clsU_mono E.length hi (Nat.le_refl _))
theorem split_0 {LS:List (List Sp)}{E:List Int}{top:Int}{hs:List Hs}(hC:classes LS top=(keysU LS E E.length).map (fun v=>cls E top (fun x=>decide (vec LS x=v))))
 (hS:splitE LS top=if(classes LS top).any (fun a=>decide (64<a.length))=true then 4 else 0) (hl:hs.length=(keysU LS E E.length).length)
 (hc:∀k (h:k<hs.length),hs[k].l=clsU LS E top ((keysU LS E E.length).getD k []) E.length) (h64:∀k (h:k<hs.length),hs[k].l.length≤64):splitE LS top=0∧hs.map (·.l)=classes LS top:=by
 have hm:hs.map (·.l)=classes LS top:=by
  rw[hC];refine List.ext_getElem (by simpa using hl) (fun k h1 h2=>?_);have h3:k<hs.length:=by simpa using h1
  rw[List.getElem_map,List.getElem_map,hc k h3,clsU_all];simp[List.getD_eq_getElem?_getD,show k<(keysU LS E E.length).length by omega]
 refine⟨?_,hm⟩;rw[hS,if_neg];rw[List.any_eq_true,←hm];rintro⟨a,ha,h⟩;obtain⟨z,hz,rfl⟩:=List.mem_map.1 ha;obtain⟨k,hk,rfl⟩:=List.getElem_of_mem hz;have:=h64 k hk;rw[decide_eq_true_iff] at h;omega
end
end Go.Proofs.YtmocoldobnimfaaGreat
