/- Texts of this proof: DQ DM DN. -/
import Derived.Test.YtmocoldobnimfaaGreatU00
import Derived.Test.YtmocoldobnimfaaGreatU53
import Derived.Test.YtmocoldobnimfaaGreatV00
import Derived.Test.YtmocoldobnimfaaGreatU35
import Derived.Test.YtmocoldobnimfaaGreatU15
set_option linter.all false
set_option maxRecDepth 100000
set_option maxHeartbeats 16000000
namespace Go.Proofs.YtmocoldobnimfaaGreat
section
open Go.RowKit
theorem sym_small {rn:Bool}{ts:List Int}(h:∀x∈ts,0≤x∧x≤200):ts.all (symV rn)=true:=
 List.all_eq_true.2 fun x hx=>by
  have:=h x hx;unfold symV
  cases rn<;>simp<;>omega
theorem found_alike {w:World}{runes:Bool}{caps:Int}{G:List Ins}{g:Nat}{m:Ma}{strt:List Sp}{R sts:List St}{op:List Bool}(h:NewOk w runes caps G g m strt R)(hs:stsG G (symsR runes G)=some sts)(ho:OpnL G (symsR runes G) sts op):R=sts∧m.opn=op:=by
 have e:=h.sts;rw[stsG_alike h.ok,hs] at e;injection e with e
 subst e;exact⟨rfl,OpnL.uniq h.opn ((opnL_PR h.ok).2 ho)⟩
end
section
open Go.RowKit
def sameG (G:List Ins)(R:List St)(a b:List Int):Bool:=
 decide (a.length=b.length)&&(decide (∀i,i<R.length→rrun G (R.getD i []) a 1=rrun G (R.getD i []) b 1)&&decide (∀i,i<a.length→rrun G (stateG G [0]) (a.drop i) 0=rrun G (stateG G [0]) (b.drop i) 0))
theorem upF_inj {f f':Nat→Int}{n:Nat}:upF f n=upF f' n↔∀i,i<n→f i=f' i:=by
 refine⟨fun h i hi=>?_,upF_congr⟩;have h2:=congrArg (fun l:List Int=>l.getD i 0) h
 rwa [upF_getD _ _ _ hi,upF_getD _ _ _ hi] at h2
theorem idx_inj {R:List St}(hg:GoodL R){s t:St}(hs:s=[]∨s∈R)(ht:t=[]∨t∈R)(h:idx R s=idx R t):s=t:=by
 have hn:∀u:St,u∈R→u≠[]:=fun u hu e=>hg.2 (e▸hu);rcases hs with rfl|hs<;>rcases ht with rfl|ht
 ·rfl
 ·have:=idx_bd ht (hn t ht);have e:idx R [] = -1:=by simp[idx]
  omega
 ·have:=idx_bd hs (hn s hs);have e:idx R [] = -1:=by simp[idx]
  omega
 ·have h1:=(idx_bd hs (hn s hs)).2.2;have h2:=(idx_bd ht (hn t ht)).2.2;rw[h,h2] at h1;injection h1 with h1
  exact h1.symm
theorem idx_at {R:List St}(hg:GoodL R){i:Nat}(hi:i<R.length):idx R R[i]=i:=by
 have hm:=List.getElem_mem hi;have hn:R[i]≠[]:=fun e=>hg.2 (e▸hm);obtain⟨h0,h1,h2⟩:=idx_bd hm hn;have h3:(idx R R[i]).toNat<R.length:=om;rw[List.getElem?_eq_getElem h3] at h2;injection h2 with h2
 have hp:=List.pairwise_iff_getElem.1 hg.1;rcases Nat.lt_trichotomy (idx R R[i]).toNat i with hlt|heq|hgt
 ·exact absurd h2 (hp _ _ h3 hi hlt)
 ·omega
 ·exact absurd h2.symm (hp _ _ hi h3 hgt)
section
variable {G:List Ins} {cs:List Int} {R:List St} {m:Ma} {cf:Int→Nat}
theorem MachOf.tgla (h:MachOf G cs R m)(ts:List Int)(hl:∀x∈ts,ClOf G cs cf x){i:Nat}(hi:i<R.length) :
 tgF m (ts.map cf) i=idx R (rrun G (R.getD i []) ts 1).1∧laF m (ts.map cf) i=(rrun G (R.getD i []) ts 1).2∧((rrun G (R.getD i []) ts 1).1=[]∨(rrun G (R.getD i []) ts 1).1∈R):=by
 have e:R.getD i []=R[i]:=by simp[List.getD_eq_getElem?_getD,hi]
 have hr:=h.run (cf:=cf) ts hl 0 R[i] (-1) (.inr (List.getElem_mem hi));rw[idx_at h.good hi] at hr;have hd:rrun G R[i] ts 1=runR (nextG G) (doneG G) ts 0 R[i] (-1):=by unfold rrun;rw[if_neg om]
 rw[e,hd];unfold tgF laF toS;rw[hr.1];exact⟨rfl,rfl,hr.2⟩
theorem MachOf.same (h:MachOf G cs R m){g:Nat}{a b:List Int}{sa sb:Sm}(ka:SumOf m g (a.map cf) sa)(kb:SumOf m g (b.map cf) sb)(ha:∀x∈a,ClOf G cs cf x)(hb:∀x∈b,ClOf G cs cf x):smEq sa sb=sameG G R a b:=by
 have hn:m.next.length=R.length:=by have:=congrArg List.length h.nx;simpa[rowsOf] using this
 unfold smEq sameG;rw[ka.len,kb.len,ka.tg,kb.tg,ka.last,kb.last,ka.st,kb.st,ka.en,kb.en,hn,List.length_map,List.length_map];by_cases hl:a.length=b.length
 ·rw[hl];rw[Bool.eq_iff_iff];simp only[Bool.and_eq_true,decide_eq_true_eq,upF_inj,true_and];have ta:=fun i (hi:i<R.length)=>h.tgla (cf:=cf) a ha hi;have tb:=fun i (hi:i<R.length)=>h.tgla (cf:=cf) b hb hi;have sa':=fun k=>h.start (cf:=cf) a ha k;have sb':=fun k=>h.start (cf:=cf) b hb k;have bda:=fun k=>rrun_bd G (stateG G [0]) (a.drop k) 0;have bdb:=fun k=>rrun_bd G (stateG G [0]) (b.drop k) 0;constructor
  ·rintro⟨h1,h2,h3,h4⟩;refine⟨fun i hi=>?_,fun i hi=>?_⟩
   ·obtain⟨p1,p2,p3⟩:=ta i hi;obtain⟨q1,q2,q3⟩:=tb i hi;refine Prod.ext (idx_inj h.good p3 q3 (by rw[←p1,←q1];exact h1 i hi)) (by rw[←p2,←q2];exact h2 i hi)
   ·obtain⟨p1,p2,p3⟩:=sa' i;obtain⟨q1,q2,q3⟩:=sb' i;refine Prod.ext (idx_inj h.good p3 q3 (by rw[←p1,←q1];exact h3 i hi)) ?_;have h5:=h4 i hi;rw[p2,q2] at h5;have b1:=bda i;have b2:=bdb i
    split at h5<;>split at h5<;>omega
  ·rintro⟨h1,h2⟩;refine⟨fun i hi=>?_,fun i hi=>?_,fun i hi=>?_,fun i hi=>?_⟩
   ·rw[(ta i hi).1,(tb i hi).1,h1 i hi]
   ·rw[(ta i hi).2.1,(tb i hi).2.1,h1 i hi]
   ·rw[(sa' i).1,(sb' i).1,h2 i hi]
   ·rw[(sa' i).2.1,(sb' i).2.1,h2 i hi]
 ·rw[decide_eq_false hl];rfl
end
theorem runR_cons (f:St→Int→St)(dn:St→Bool)(c:Int)(r:List Int)(k:Nat)(s:St)(last:Int):runR f dn (c::r) k s last=runR f dn r (k+1) (f s c) (if dn (f s c)=true then((k+1:Nat):Int) else last):=rfl
theorem runR_from (f:St→Int→St)(dn:St→Bool):∀(l:List Int) (k j:Nat) (s:St) (last:Int),runR f dn l (k+j) s last=((runR f dn l j s (-1)).1,if(runR f dn l j s (-1)).2 = -1 then last else(k:Int)+(runR f dn l j s (-1)).2)
 | [],_,_,_,_=>by simp[runR]
 | c::r,k,j,s,last=>by
  have h1:=runR_from f dn r k (j+1) (f s c) (if dn (f s c)=true then((k+j+1:Nat):Int) else last);have h2:=runR_from f dn r 0 (j+1) (f s c) (if dn (f s c)=true then((j+1:Nat):Int) else -1);rw[Nat.zero_add] at h2;have e:k+j+1=k+(j+1):=om;rw[e] at h1;rw[runR_cons,runR_cons,e,h1,h2];generalize runR f dn r (j+1) (f s c) (-1)=X;refine Prod.ext rfl ?_
  simp only
  by_cases hd:dn (f s c)=true
  ·rw[if_pos hd,if_pos hd];by_cases hx:X.2 = -1
   ·rw[if_pos hx,if_pos hx,if_neg om];omega
   ·rw[if_neg hx,if_neg hx,if_neg om];omega
  ·rw[if_neg hd,if_neg hd];by_cases hx:X.2 = -1
   ·rw[if_pos hx,if_pos hx,if_pos rfl]
   ·rw[if_neg hx,if_neg hx,if_neg om];omega
theorem runR_append (f:St→Int→St)(dn:St→Bool):∀(a b:List Int) (k:Nat) (s:St) (last:Int),runR f dn (a++b) k s last=runR f dn b (k+a.length) (runR f dn a k s last).1 (runR f dn a k s last).2
 | [],b,k,s,last=>by simp[runR]
 | c::r,b,k,s,last=>by
  rw[List.cons_append,runR_cons,runR_cons,runR_append f dn r b (k+1),List.length_cons];have e:k+1+r.length=k+(r.length+1):=om;rw[e]
section
variable {G:List Ins} {cs:List Int} {R:List St} {m:Ma} {cf:Int→Nat}
theorem MachOf.exch (h:MachOf G cs R m){a b:List Int}(hs:sameG G R a b=true)(x y:List Int)(hx:∀z∈x,ClOf G cs cf z):sameG G R (x++a++y) (x++b++y)=true:=by
 unfold sameG at hs ⊢;simp only[Bool.and_eq_true,decide_eq_true_eq] at hs ⊢;obtain⟨hl,hR,hS⟩:=hs;have key:∀s,(s=[]∨s∈R)→∀(k:Nat) (last:Int),runR (nextG G) (doneG G) a k s last=runR (nextG G) (doneG G) b k s last:=fun s hs k last=>by
  have e0:runR (nextG G) (doneG G) a 0 s (-1)=runR (nextG G) (doneG G) b 0 s (-1):=by
   rcases hs with rfl|hs
   ·rw[runR_nil (fun c=>nextG_nil G c) (doneG_nil G),runR_nil (fun c=>nextG_nil G c) (doneG_nil G)]
   ·obtain⟨i,hi,rfl⟩:=List.mem_iff_getElem.1 hs;have h1:=hR i hi;have e:R.getD i []=R[i]:=by simp[List.getD_eq_getElem?_getD,hi]
    rw[e] at h1;unfold rrun at h1;rw[if_neg om] at h1;exact h1
  have h1:=runR_from (nextG G) (doneG G) a k 0 s last;have h2:=runR_from (nextG G) (doneG G) b k 0 s last;rw[Nat.add_zero] at h1 h2;rw[h1,h2,e0]
 have key2:∀(z:List Int),(∀q∈z,ClOf G cs cf q)→∀s,(s=[]∨s∈R)→∀(k:Nat) (last:Int),runR (nextG G) (doneG G) (z++a++y) k s last=runR (nextG G) (doneG G) (z++b++y) k s last:=fun z hz s hs k last=>by
  have hr:=(h.run (cf:=cf) z hz k s last hs).2;rw[runR_append,runR_append _ _ z a,runR_append _ _ (z++b) y,runR_append _ _ z b,key _ hr,List.length_append,List.length_append,hl]
 refine⟨by simp[hl],fun i hi=>?_,fun i hi=>?_⟩
 ·have e:R.getD i []=R[i]:=by simp[List.getD_eq_getElem?_getD,hi]
  rw[e];unfold rrun;exact key2 x hx _ (.inr (List.getElem_mem hi)) _ _
 ·by_cases h1:i≤x.length
  ·have ea:∀c:List Int,(x++c++y).drop i=x.drop i++c++y:=fun c=>by
    rw[List.append_assoc,List.drop_append_of_le_length h1,List.append_assoc]
   rw[ea a,ea b];unfold rrun;exact key2 (x.drop i) (fun q hq=>hx q (List.mem_of_mem_drop hq)) _ h.st0 _ _
  ·by_cases h2:i-x.length<a.length
   ·have ea:∀c:List Int,i-x.length≤c.length→(x++c++y).drop i=c.drop (i-x.length)++y:=fun c hc=>by
     have e:i=x.length+(i-x.length):=om;rw[List.append_assoc]
     conv=>lhs;rw[e,List.drop_length_add_append]
     rw[List.drop_append_of_le_length hc]
    rw[ea a om,ea b om];have h3:=hS _ h2;unfold rrun at h3 ⊢;rw[runR_append,runR_append _ _ (b.drop _) y,h3,List.length_drop,List.length_drop,hl]
   ·have ea:∀c:List Int,c.length≤i-x.length→(x++c++y).drop i=y.drop (i-x.length-c.length):=fun c hc=>by
     have e:i=(x++c).length+(i-x.length-c.length):=by rw[List.length_append];omega
     conv=>lhs;rw[e,List.drop_length_add_append]
    rw[ea a om,ea b om,hl]
end
end
section
open Go.RowKit
attribute [local go_sem ↓] Go.wp_at_zero Go.wp_at_succ
theorem DNz1 {P:Prop} (h:P:=by
 rw[castL_beq,decide_eq_false hss] at HSI;clear HI1 HI2 hss
 go_wp2_with (go_at_call 54;refine HSI.out.mono ?_;rintro e w9 h9;obtain⟨rfl,x9⟩:=RetQ.v h9)
 go_ret
 exact⟨rfl,HE.out.trans (X8.out.trans x9)⟩):P:=h
theorem DNz2 {P:Prop} (h:P:=by
 obtain rfl:=HI1.out (fun e=>hxy (congrArg Prod.snd e));have hne:(rl != ql)=true:=by simpa using hxy
 clear HI1 HI2 hxy
 go_wp2_with fail
 go_ret
 exact⟨rfl,HE.out.trans X8.out⟩):P:=h
theorem qsame_any (gA:Option Addr)(gc:Nat)(hs:List Hin)(runes:Bool)(caps:Int)(hG:GOk runes caps (insL hs))(w:World)(hP:PL w gA gc hs)(SA:Option Addr)(sc:Nat)(sts:List Hl)(hSS:LN w SA sc sts)(YA:Option Addr)(yn yc:Nat)(OA:Option Addr)(on oc:Nat)(hst:∀z∈sts,StOk hs.length z.l)
 (A:Option Addr) (c:Nat) (a:List Int) (hA:IL w A c a) (B:Option Addr) (d:Nat) (b:List Int) (hB:IL w B d b) (hal:a.length≤1000000) :
 Calls Tryz.prog 34 #[mchV gA hs.length gc caps runes SA sts.length sc YA yn yc OA on oc,.slice A a.length c,.slice B b.length d] w (RetV (.bool (sameG (insL hs) (stsOf sts) a b)) w):=by
 have hcap:=hP.len;have hcA:=hA.len;have hcB:=hB.len;have hcS:=hSS.len;have bG:=Blk.new w 53 #[.slice gA hs.length gc,.int .i64 caps,.bool runes,.slice SA sts.length sc,.slice YA yn yc,.slice OA on oc];have eG:=Ext.alloc w (.cells #[.slice gA hs.length gc,.int .i64 caps,.bool runes,.slice SA sts.length sc,.slice YA yn yc,.slice OA on oc] 53);have hn0:0<hs.length:=by have:=hG.len;rw[insL_len] at this;omega
 have HSTA:=fun(w:World) (hP:PL w gA gc hs) (F:Option Addr) fc hF=>lh (state_any gA gc hs runes caps hG w hP F fc [0] hF (fun i hi=>by have h0:i=0:=(by simpa using hi);omega));have HRUN:=fun(w:World) (hP:PL w gA gc hs) A c s hS hs0 T tc ts hT (fr:Int)=>lh (rrun_any gA gc hs runes caps hG w hP A c s hS hs0 T tc ts hT fr);have hs0:StOk hs.length (stateG (insL hs) [0]):=⟨stateG_lt _,by have h1:=stateG_len (G:=insL hs) [0];have h2:=hG.len;omega⟩;obtain⟨res,HRES⟩:∃res,Hid (res=sameG (insL hs) (stsOf sts) a b):=⟨_,lh rfl⟩;have HF0:Hid (a.length≠b.length→res=false):=lh (fun h=>by rw[HRES.out];unfold sameG;rw[decide_eq_false h];rfl);have HF1:Hid (∀i,i<sts.length→rrun (insL hs) ((stsOf sts).getD i []) a 1≠rrun (insL hs) ((stsOf sts).getD i []) b 1→res=false):=lh (fun i hi h=>by
  rw[HRES.out]
  cases hh:sameG (insL hs) (stsOf sts) a b with
  | false=>rfl
  | true=>
   unfold sameG at hh;simp only[Bool.and_eq_true,decide_eq_true_eq] at hh;exact absurd (hh.2.1 i (by rw[stsOf_len];exact hi)) h)
 have HF2:Hid (∀i,i<a.length→rrun (insL hs) (stateG (insL hs) [0]) (a.drop i) 0≠rrun (insL hs) (stateG (insL hs) [0]) (b.drop i) 0→res=false):=lh (fun i hi h=>by
  rw[HRES.out]
  cases hh:sameG (insL hs) (stsOf sts) a b with
  | false=>rfl
  | true=>
   unfold sameG at hh;simp only[Bool.and_eq_true,decide_eq_true_eq] at hh;exact absurd (hh.2.2 i hi) h)
 have HT:Hid (a.length=b.length→(∀i,i<sts.length→rrun (insL hs) ((stsOf sts).getD i []) a 1=rrun (insL hs) ((stsOf sts).getD i []) b 1)→(∀i,i<a.length→rrun (insL hs) (stateG (insL hs) [0]) (a.drop i) 0=rrun (insL hs) (stateG (insL hs) [0]) (b.drop i) 0)→res=true):=lh (fun h1 h2 h3=>by
  rw[HRES.out];unfold sameG;simp only[Bool.and_eq_true,decide_eq_true_eq];exact⟨h1,fun i hi=>h2 i (by rw[stsOf_len] at hi;exact hi),h3⟩)
 rw[←HRES.out];have HST:=lh hst;unfold progV at HSTA HRUN;unfold mchV;clear hG hst HRES;go_enter Tryz.func34,Tryz.ntmps34
 go_upto_region 1 with fail
 have hP0:=lh (hP.ext eG);have hA0:=lh (hA.ext eG);have hB0:=lh (hB.ext eG);have hS0:=lh (hSS.ext eG);obtain⟨g,hg⟩:∃g,g=w.heap.size:=⟨_,rfl⟩
 rw[←hg] at bG ⊢;have HE:=lh eG;clear hg hP hA hB hSS eG;generalize w.alloc (.cells #[.slice gA hs.length gc,.int .i64 caps,.bool runes,.slice SA sts.length sc,.slice YA yn yc,.slice OA on oc] 53)=w0 at *;have HBG:=lh bG;clear bG;by_cases hl:a.length=b.length
 ·have HL:=lh hl;have hlI:((a.length:Int) != (b.length:Int))=false:=by simp[hl]
  clear hl
  go_upto_region 4 with fail
  go_loopw [7] (fun v wr=>∃i:Nat,v=.int .i64 i∧i≤sts.length∧Hid (∀j,j<i→rrun (insL hs) ((stsOf sts).getD j []) a 1=rrun (insL hs) ((stsOf sts).getD j []) b 1)∧Ext w0 wr) (fun v _=>sts.length-(intOf v).toNat)
  case atStart=>exact⟨0,rfl,om,lh (fun j hj=>absurd hj (Nat.not_lt_zero _)),Ext.rfl' _⟩
  case round=>
   obtain⟨i,rfl,hi,HI,x1⟩:=hrel;have bG1:=HBG.out.ext x1;have r0:wr.cell? ⟨g,0,none⟩=some (.slice gA hs.length gc):=bG1.cell 0;have r1:wr.cell? ⟨g,1,none⟩=some (.int .i64 caps):=bG1.cell 1;have r2:wr.cell? ⟨g,2,none⟩=some (.bool runes):=bG1.cell 2;have r3:wr.cell? ⟨g,3,none⟩=some (.slice SA sts.length sc):=bG1.cell 3;by_cases hlt:i<sts.length
   ·have hltI:(i:Int)<(sts.length:Int):=om;obtain⟨sb,so,hSA,hcell⟩:=(hS0.out.ext x1).get hlt;subst hSA;have hIL:=lh ((hS0.out.ext x1).il _ (List.getElem_mem hlt));have HZO:=lh (HST.out _ (List.getElem_mem hlt));have HSD:Hid ((stsOf sts).getD i []=sts[i].l):=lh (by simp[stsOf,List.getD_eq_getElem?_getD,hlt]);generalize sts[i]=z at *;have k0:=kc0 r0;have k1:=kc0 r1;have k2:=kc0 r2;have k3:=kc0 r3;have k4:=kc0 hcell
    go_upto_region 6 with fail
    refine Xr.start [] kr ?_;refine Xtk 0 ?_
    iterate 7(refine Xtn ?_)
    refine Xcl 8 fun w4 hE4 hK4 K hKK=>?_;go_simp;refine(HRUN w4 ((hP0.out.ext x1).ext hK4.nil) z.A z.c z.l (hIL.out.ext hK4.nil) HZO.out A c a ((hA0.out.ext x1).ext hK4.nil) 1).out.mono ?_;rintro e w5 ⟨A5,c5,rfl,hA5,x5⟩;refine hKK _ _ x5 ?_;clear hKK;refine ptm ?_;refine Xtk 9 ?_
    iterate 4(refine Xtn ?_)
    refine Xdn fun w6 hE6 hK6=>?_;have y6:=hK6.nil;have HA6:=lh (hA5.ext hE6);have X6:=lh (x1.trans y6);replace r0:=y6.cell r0;replace r1:=y6.cell r1;replace r2:=y6.cell r2;replace r3:=y6.cell r3;replace hcell:=y6.cell hcell;have hIL6:=lh (hIL.out.ext y6);clear k0 k1 k2 k3 k4 hE4 hK4 hA5 x5 hE6 hK6 bG1 hIL;obtain⟨r,hr⟩:∃r,r=rrun (insL hs) z.l a 1:=⟨_,rfl⟩;have HR:=lh hr
    rw[←hr] at HA6 ⊢;clear hr y6;have k0:=kc0 r0;have k1:=kc0 r1;have k2:=kc0 r2;have k3:=kc0 r3;have k4:=kc0 hcell
    go_upto_region 7 with fail
    refine Xr.start [] kr ?_;refine Xtk 0 ?_
    iterate 7(refine Xtn ?_)
    refine Xcl 8 fun w4 hE4 hK4 K hKK=>?_;go_simp;refine(HRUN w4 ((hP0.out.ext X6.out).ext hK4.nil) z.A z.c z.l (hIL6.out.ext hK4.nil) HZO.out B d b ((hB0.out.ext X6.out).ext hK4.nil) 1).out.mono ?_;rintro e w5 ⟨A7,c7,rfl,hA7,x5⟩;refine hKK _ _ x5 ?_;clear hKK;refine ptm ?_;refine Xtk 9 ?_
    iterate 4(refine Xtn ?_)
    refine Xdn fun w8 hE8 hK8=>?_;have y8:=hK8.nil;have HA8:=lh (hA7.ext hE8);have X8:=lh (X6.out.trans y8);replace HA6:=lh (HA6.out.ext y8);clear k0 k1 k2 k3 k4 hE4 hK4 hA7 x5 hE8 hK8 r0 r1 r2 r3 hcell hIL6 X6 y8;obtain⟨q,hq⟩:∃q,q=rrun (insL hs) z.l b 1:=⟨_,rfl⟩;have HQ:=lh hq
    rw[←hq] at HA8 ⊢;clear hq;have HI1:Hid (r≠q→res=false):=lh (fun h=>HF1.out i hlt (by rw[HSD.out,←HR.out,←HQ.out];exact h));have HI2:Hid (r=q→∀j,j<i+1→rrun (insL hs) ((stsOf sts).getD j []) a 1=rrun (insL hs) ((stsOf sts).getD j []) b 1):=lh (fun h j hj=>by
     rcases Nat.lt_or_ge j i with h1|h1
     ·exact HI.out j h1
     ·obtain rfl:j=i:=om;rw[HSD.out,←HR.out,←HQ.out];exact h)
    clear HR HQ;obtain⟨rs,rl⟩:=r;obtain⟨qs,ql⟩:=q
    simp only at HA6 HA8 ⊢
    by_cases hxy:rl=ql
    ·subst hxy;by_cases hss:rs=qs
     ·subst hss;have HI3:=lh (HI2.out rfl);have HSI:=lh (sameInts_any A5 A7 c5 c7 (castL rs) (castL rs) w8 HA6.out HA8.out);rw[beq_self_eq_true] at HSI;clear HI1 HI2
      go_wp2_with (go_at_call 54;refine HSI.out.mono ?_;rintro e w9 h9;obtain⟨rfl,x9⟩:=RetQ.v h9)
      go_roundw
      case rel=>exact⟨i+1,by go_num,om,HI3,X8.out.trans x9⟩
      case measure=>simp[intOf];omega
     ·obtain rfl:=HI1.out (fun e=>hss (congrArg Prod.fst e));have HSI:=lh (sameInts_any A5 A7 c5 c7 (castL rs) (castL qs) w8 HA6.out HA8.out);exact DNz1
    ·exact DNz2
   ·have hltI:¬(i:Int)<(sts.length:Int):=om;have HI3:Hid (∀j,j<sts.length→rrun (insL hs) ((stsOf sts).getD j []) a 1=rrun (insL hs) ((stsOf sts).getD j []) b 1):=lh (fun j hj=>HI.out j om);have HX1:=lh x1;clear HI x1 bG1
    go_upto_region 11 with fail
    go_loopw [12] (fun v wr=>∃i:Nat,v=.int .i64 i∧i≤a.length∧Hid (∀j,j<i→rrun (insL hs) (stateG (insL hs) [0]) (a.drop j) 0=rrun (insL hs) (stateG (insL hs) [0]) (b.drop j) 0)∧Ext w0 wr) (fun v _=>a.length-(intOf v).toNat)
    case atStart=>exact⟨0,rfl,om,lh (fun j hj=>absurd hj (Nat.not_lt_zero _)),HX1.out⟩
    case round=>
     clear HX1;obtain⟨i,rfl,hi,HI,x1⟩:=hrel;by_cases hlt:i<a.length
     ·have hltI:(i:Int)<(a.length:Int):=om;have hib:i<b.length:=by have:=HL.out;omega
      have hiA:(i:Int)≤a.length:=om;have hiB:(i:Int)≤b.length:=om;have hiA2:(i:Int)≤c:=om;have hiB2:(i:Int)≤d:=om;have HILa:=lh (Nat.le_of_lt hlt);have HILb:=lh (Nat.le_of_lt hib);have HDLa:Hid ((a.drop i).length=a.length-i):=lh List.length_drop;have HDLb:Hid ((b.drop i).length=b.length-i):=lh List.length_drop;have X1:=lh x1;have bG1:=HBG.out.ext x1;have r0:wr.cell? ⟨g,0,none⟩=some (.slice gA hs.length gc):=bG1.cell 0;have r1:wr.cell? ⟨g,1,none⟩=some (.int .i64 caps):=bG1.cell 1;have r2:wr.cell? ⟨g,2,none⟩=some (.bool runes):=bG1.cell 2;have k0:=kc0 r0;have k1:=kc0 r1;have k2:=kc0 r2;clear r0 r1 r2 bG1 x1
      go_upto_region 13 with fail
      refine Xr.start [] kr ?_;refine Xtk 0 ?_
      iterate 3(refine Xtn ?_)
      refine Xtk 6 ?_;refine Xtn ?_;refine Xr.take 8 (some 77) (v:=.slice (dropI A c i) (a.length-i) (c-i)) rfl rfl dK (by rfl) (fun w' hk=>?_) ?_
      ·by_cases hcc:c=i
       ·have hd:dropI A c i=A:=by unfold dropI;rw[if_pos hcc]
        rw[hd];go_simp
       ·have hd:dropI A c i=A.map (fun x=>x.add i):=by unfold dropI;rw[if_neg hcc]
        rw[hd];go_simp
      refine ptm ?_;refine Xr.lazy 4 73 5 (fun g=>.slice (some ⟨g,0,none⟩) 1 1) 3 #[.int .i64 0] rfl si dK si (fun w'=>by go_simp) ?_;refine Xr.stepZ rfl dK (fun _=>by rfl) (fun w2 gq hE2 hK2 hgq hq _ K hKK=>?_);go_simp;refine(HSTA w2 ((hP0.out.ext X1.out).ext hK2.nil) (some ⟨gq,0,none⟩) 1 (IL.one (x:=0) hq (by unfold I64;omega))).out.mono ?_;rintro e w3 ⟨A3,c3,rfl,hA3,x3,f3⟩;refine hKK _ _ (WI_ext x3) (hK2.ext x3) ?_;clear hKK;refine ptm ?_;refine Xcl 9 fun w4 hE4 hK4 K hKK=>?_;go_simp;have HR4:=HRUN w4 ((hP0.out.ext X1.out).ext hK4.nil) A3 c3 (stateG (insL hs) [0]) (hA3.ext hE4) hs0 (dropI A c i) (c-i) (a.drop i) (((hA0.out.ext X1.out).ext hK4.nil).dropN HILa.out) 0;rw[HDLa.out] at HR4;refine HR4.out.mono ?_;rintro e w5 ⟨A5,cA5,rfl,hA5,x5⟩;refine hKK _ _ x5 ?_;clear hKK;refine ptm ?_;refine Xtk 10 ?_
      iterate 4(refine Xtn ?_)
      refine Xdn fun w6 hE6 hK6=>?_;have y6:=hK6.nil;have HA6:=lh (hA5.ext hE6);have X6:=lh (X1.out.trans y6);clear k0 k1 k2 hE2 hK2 hgq hq hA3 x3 f3 hE4 hK4 hE6 hK6 hA5 x5 HR4 y6 X1;obtain⟨r,hr⟩:∃r,r=rrun (insL hs) (stateG (insL hs) [0]) (a.drop i) 0:=⟨_,rfl⟩;have HR:=lh hr
      rw[←hr] at HA6 ⊢;clear hr;have bG6:=HBG.out.ext X6.out;have r0:w6.cell? ⟨g,0,none⟩=some (.slice gA hs.length gc):=bG6.cell 0;have r1:w6.cell? ⟨g,1,none⟩=some (.int .i64 caps):=bG6.cell 1;have r2:w6.cell? ⟨g,2,none⟩=some (.bool runes):=bG6.cell 2;have k0:=kc0 r0;have k1:=kc0 r1;have k2:=kc0 r2;clear r0 r1 r2 bG6
      go_upto_region 14 with fail
      refine Xr.start [] kr ?_;refine Xtk 0 ?_
      iterate 3(refine Xtn ?_)
      refine Xtk 6 ?_;refine Xtn ?_;refine Xr.take 8 (some 90) (v:=.slice (dropI B d i) (b.length-i) (d-i)) rfl rfl dK (by rfl) (fun w' hk=>?_) ?_
      ·by_cases hcc:d=i
       ·have hd:dropI B d i=B:=by unfold dropI;rw[if_pos hcc]
        rw[hd];go_simp
       ·have hd:dropI B d i=B.map (fun x=>x.add i):=by unfold dropI;rw[if_neg hcc]
        rw[hd];go_simp
      refine ptm ?_;refine Xr.lazy 4 86 5 (fun g=>.slice (some ⟨g,0,none⟩) 1 1) 3 #[.int .i64 0] rfl si dK si (fun w'=>by go_simp) ?_;refine Xr.stepZ rfl dK (fun _=>by rfl) (fun w2 gq hE2 hK2 hgq hq _ K hKK=>?_);go_simp;refine(HSTA w2 ((hP0.out.ext X6.out).ext hK2.nil) (some ⟨gq,0,none⟩) 1 (IL.one (x:=0) hq (by unfold I64;omega))).out.mono ?_;rintro e w3 ⟨A3,c3,rfl,hA3,x3,f3⟩;refine hKK _ _ (WI_ext x3) (hK2.ext x3) ?_;clear hKK;refine ptm ?_;refine Xcl 9 fun w4 hE4 hK4 K hKK=>?_;go_simp;have HR4:=HRUN w4 ((hP0.out.ext X6.out).ext hK4.nil) A3 c3 (stateG (insL hs) [0]) (hA3.ext hE4) hs0 (dropI B d i) (d-i) (b.drop i) (((hB0.out.ext X6.out).ext hK4.nil).dropN HILb.out) 0;rw[HDLb.out] at HR4;refine HR4.out.mono ?_;rintro e w5 ⟨A7,cA7,rfl,hA5,x5⟩;refine hKK _ _ x5 ?_;clear hKK;refine ptm ?_;refine Xtk 10 ?_
      iterate 4(refine Xtn ?_)
      refine Xdn fun w8 hE6 hK6=>?_;have y8:=hK6.nil;have HA8:=lh (hA5.ext hE6);have X8:=lh (X6.out.trans y8);replace HA6:=lh (HA6.out.ext y8);clear k0 k1 k2 hE2 hK2 hgq hq hA3 x3 f3 hE4 hK4 hE6 hK6 hA5 x5 HR4 y8 X6;obtain⟨q,hq⟩:∃q,q=rrun (insL hs) (stateG (insL hs) [0]) (b.drop i) 0:=⟨_,rfl⟩;have HQ:=lh hq
      rw[←hq] at HA8 ⊢;clear hq;have HI1:Hid (r≠q→res=false):=lh (fun h=>HF2.out i hlt (by rw[←HR.out,←HQ.out];exact h));have HI2:Hid (r=q→∀j,j<i+1→rrun (insL hs) (stateG (insL hs) [0]) (a.drop j) 0=rrun (insL hs) (stateG (insL hs) [0]) (b.drop j) 0):=lh (fun h j hj=>by
       rcases Nat.lt_or_ge j i with h1|h1
       ·exact HI.out j h1
       ·obtain rfl:j=i:=om
        rw[←HR.out,←HQ.out];exact h)
      clear HR HQ;obtain⟨rs,rl⟩:=r;obtain⟨qs,ql⟩:=q
      simp only at HA6 HA8 ⊢
      by_cases hxy:rl=ql
      ·subst hxy;by_cases hss:rs=qs
       ·subst hss;have HI3b:=lh (HI2.out rfl);have HSI:=lh (sameInts_any A5 A7 cA5 cA7 (castL rs) (castL rs) w8 HA6.out HA8.out);rw[beq_self_eq_true] at HSI;clear HI1 HI2
        go_wp2_with (go_at_call 54;refine HSI.out.mono ?_;rintro e w9 h9;obtain⟨rfl,x9⟩:=RetQ.v h9)
        go_roundw
        case rel=>exact⟨i+1,by go_num,om,HI3b,X8.out.trans x9⟩
        case measure=>simp[intOf];omega
       ·obtain rfl:=HI1.out (fun e=>hss (congrArg Prod.fst e));have HSI:=lh (sameInts_any A5 A7 cA5 cA7 (castL rs) (castL qs) w8 HA6.out HA8.out);exact DNz1
      ·exact DNz2
     ·have hltI:¬(i:Int)<(a.length:Int):=om;obtain rfl:=HT.out HL.out HI3.out (fun j hj=>HI.out j om)
      go_wp2_with fail
      go_ret
      exact⟨rfl,HE.out.trans x1⟩
 ·obtain rfl:=HF0.out hl;have hlI:((a.length:Int) != (b.length:Int))=true:=by simp;omega
  clear hl
  go_wp2_with fail
  go_ret
  exact⟨rfl,HE.out⟩
end
end Go.Proofs.YtmocoldobnimfaaGreat
