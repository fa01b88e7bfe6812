/- Texts of this proof: QA. -/
import Derived.Test.YtmpcoifnpflapaaGreatER32
import Derived.Laws.BitsAllLaws
set_option linter.all false
set_option maxRecDepth 100000
set_option maxHeartbeats 16000000
namespace Go.Proofs.YtmpcoifnpflapaaGreat
section
open Go.RowKit
theorem zIntU:∀W:World,(zeroValue 3).run Tryz.prog W=.ok (.int .i64 0) W:=fun W=>by
 go_simp
def lenOf:Value->Nat
 | .slice _ n _=>n
 | _=>0
theorem splitE_bad {ls:List (List Sp)}{top:Int}(h:vErr ls≠0):splitE ls top=vErr ls:=by unfold splitE;rw[if_pos h]
theorem splitE_top {ls:List (List Sp)}{top:Int}(h:vErr ls=0)(ht:top<0\/1114111<top):splitE ls top=5:=by unfold splitE;rw[if_neg (by simp[h]),if_pos ht]
theorem splitE_ok {ls:List (List Sp)}{top:Int}(h:vErr ls=0)(ht:¬(top<0\/1114111<top)):splitE ls top=if(classes ls top).any (fun a=>decide (64<a.length))=true then 4 else 0:=by unfold splitE;rw[if_neg (by simp[h]),if_neg ht]
theorem evU_len {top:Int}{ls:List Hs}{i k:Nat}:(evU top ls i k).length<=2*((ls.map (·.l)).flatten.length):=by
 have h1:∀n,((List.range n).flatMap (fun q=>evL top q ((ls.map (·.l)).getD q []))).length<=2*(((ls.take n).map (·.l)).flatten).length:=by
  intro n;induction n with
  | zero=>simp
  | succ n ih=>
   rw[List.range_succ,List.flatMap_append,List.length_append];simp only[List.flatMap_cons,List.flatMap_nil,List.append_nil];have h2:=evL_len top n ((ls.map (·.l)).getD n []);rcases Nat.lt_or_ge n ls.length with hn|hn
   ·rw[evU_getD hn] at h2 ⊢;rw[List.take_succ_eq_append_getElem hn,List.map_append,List.flatten_append,List.length_append];simp only[List.map_cons,List.map_nil,List.flatten_cons,List.flatten_nil,List.append_nil];omega
   ·have e:(ls.map (·.l)).getD n []=[]:=by rw[List.getD_eq_getElem?_getD,List.getElem?_eq_none (by simpa using hn)];rfl
    rw[e] at h2 ⊢;rw[List.take_of_length_le (show ls.length<=n+1 by omega)];rw[List.take_of_length_le hn] at ih;simp only[List.length_nil] at h2;omega
 have h2:=h1 i;have h3:=evL_len top i (((ls.map (·.l)).getD i []).take k);have h4:=flat_part (ls:=ls) (i:=i) (k:=k);unfold evU;rw[List.length_append] at h4 ⊢;have e:((ls.map (·.l)).getD i []).take k=((ls[i]?.map (·.l)).getD []).take k:=by rw[List.getD_eq_getElem?_getD,List.getElem?_map]
 rw[e] at h3 ⊢;omega
theorem SL.of_own2 {w:World}{base c T:Nat}{A:Option Addr}{l:List Sp}(h:OwnS w base T 2 A l.length c (flatS l))(hr:∀s∈l,S64 s):SL w A c l:=by
 have hc:=OwnS.caps h;refine⟨hc.1,by unfold maxLen;omega,hr,fun hn=>?_⟩;obtain⟨b,o,hA,hcell⟩:=OwnS.cells h (by intro e;have:=flatS_len l;rw[e] at this;simp at this;exact hn (List.length_eq_zero_iff.1 om));have one:∀(i:Nat) (v:Value),(flatS l)[i]? = some v->w.cell? ⟨b,o+i,none⟩=some v:=fun i v hv=>by
  obtain⟨l1,e1⟩:=List.getElem?_eq_some_iff.1 hv;rw[hcell i l1,e1]
 exact⟨b,o,hA,fun i hi=>⟨one _ _ (flatS_get l i hi).1,by rw[Nat.add_assoc];exact one _ _ (flatS_get l i hi).2⟩⟩
theorem xor_pow (a r:Nat)(ha:a<2 ^ 64)(hr:r<64):Go.bits BinOp.xor IntKind.u64 (a:Int) (IntKind.u64.wrap (2 ^ r))=((a ^^^ 2 ^ r:Nat):Int):=by
 have h3:(2:Nat) ^ r<2 ^ 64:=Nat.pow_lt_pow_right de hr;have h4:((2 ^ r:Nat):Int)=(2:Int) ^ r:=by simp
 have h5:IntKind.u64.wrap ((2:Int) ^ r)=((2 ^ r:Nat):Int):=by
  rw[<-h4,IntKind.wrap_u64];generalize (2 ^ r:Nat)=pw at *;omega
 rw[h5];exact u64_xor_nat a (2 ^ r) om om
theorem QAz1 {P:Prop} (h:P:=by
 have HS4:=lh (split_4 HCL.out HSE.out (i:=i+1) (n:=n) (by have:=HIB.out;omega) (by rw[<-HSP.out.hlen,List.length_set];exact hnh) (by
  rw[<-HSP.out.cls n (by rw[List.length_set];exact hnh),List.getElem_set_self]
  rw[<-HXE.out,<-HLN.out];simp only[lastOf];omega))
 go_wp2_with fail
 exact bodyPost_ret (v:=.tuple #[.slice none 0 0,.int .i64 4]) (by simp[results,Tryz.results68,go_sem]) rfl (by rw[HLS.out];exact⟨none,0,[],by rw[HS4.out];rfl,LLS.nil _,by rw[HS4.out,if_neg de];rfl,X1.trans HX9.out⟩)):P:=h
theorem QAz2 {P:Prop} (h:P:=by
 rw[List.getElem_append]
 split
 ·exact HEK.out.2.2.2.2 k (by assumption)
 ·have:=HZL.out;simp only[List.getElem_singleton];omega):P:=h
theorem QAz3 {P:Prop} (h:P:=by
 clear HV0
 go_wp2_with fail
 exact bodyPost_ret (v:=.tuple #[.slice none 0 0,.int .i64 5]) (by simp[results,Tryz.results68,go_sem]) rfl ⟨none,0,[],by rw[HSP.out];rfl,LLS.nil _,by rw[HSP.out,if_neg de];rfl,x1⟩):P:=h
theorem QAz4 {P:Prop} (h:P:=by
 have:=HSP.out
 rw[<-HXE.out] at this;simp only[lastOf] at this ⊢;rw[hz.out] at this;exact this):P:=h
theorem QAz5 {P:Prop} (h:P:=by
 rw[List.getElem_set]
 split
 ·simp only;omega
 ·exact HEK.out.2.2.2.2 k (by simpa using h)):P:=h
theorem sSplitN_any (A:Option Addr)(c:Nat)(ls:List Hs)(top:Int)(w:World)(hl:LLS w A c ls)(ht64:I64 top)(hnl:ls.length<=1024)(hlen:(ls.map (·.l)).flatten.length<=10000)(hE:(endsT top (ls.map (·.l))).length<=1000) :
 Calls Tryz.prog 68 #[.slice A ls.length c,.int .i64 top] w (RetSplit (ls.map (·.l)) top w):=by
 have hcap:=hl.len;have hmm:=@run_makeMap Tryz.prog;have HVB:=fun(i:Nat) (hi:i<ls.length) (h0:∀j (hj:j<ls.length),j<i->validE ls[j].l=0) (h:validE ls[i].l≠0)=>lh (show vErr (ls.map (·.l))=validE ls[i].l by
  have:=vErr_bad (ls:=ls.map (·.l)) (i:=i) (by simpa using hi) (fun j hj hji=>by simpa using h0 j (by simpa using hj) hji) (by simpa using h)
  simpa using this)
 have HVO:=fun(h0:∀j (hj:j<ls.length),validE ls[j].l=0)=>lh (show vErr (ls.map (·.l))=0 from vErr_ok (fun j hj=>by simpa using h0 j (by simpa using hj)));go_enter Tryz.func68,Tryz.ntmps68
 go_wp2_with fail
 go_loopw [19] (fun v wr=>∃i:Nat,v=.int .i64 i/\i<=ls.length/\Hid (∀j (hj:j<ls.length),j<i->validE ls[j].l=0)/\Ext w wr) (fun v _=>ls.length-(intOf v).toNat)
 case atStart=>exact⟨0,rfl,om,fun j _ hj=>absurd hj (Nat.not_lt_zero _),Ext.rfl' _⟩
 case round=>
  obtain⟨i,rfl,hi,HI,x1⟩:=hrel;by_cases hlt:i<ls.length
  ·have hiI:(i:Int)<ls.length:=om;obtain⟨pb,po,rfl,g0⟩:=(hl.ext x1).get hlt;have hsl:=(hl.sl _ (List.getElem_mem hlt)).ext x1;have HV:=fun(W':World) (x:Ext wr W')=>lh (sValid_any _ _ _ W' (hsl.ext x));have HI2:=lh (show validE ls[i].l=0->∀j (hj:j<ls.length),j<i+1->validE ls[j].l=0 from fun h j hj hji=>by
    rcases Nat.lt_or_ge j i with h1|h1
    ·exact HI.out j hj h1
    ·have:j=i:=om;subst this;exact h)
   have HB:=HVB i hlt HI.out;by_cases hv:validE ls[i].l=0
   ·have HI3:=lh (HI2.out hv);rw[hv] at HV;generalize ls[i]=hh at *;obtain⟨hA,hc,hl2⟩:=hh
    simp only at g0 HV
    clear HI2 HB HVB HVO HI
    go_wp2_with fail
    refine(HV _ (Ext.rfl' _)).out.mono ?_;rintro e w2 ⟨rfl,x2⟩;have x3:=x1.trans x2;clear HV g0 hsl
    go_wp2_with fail
    go_roundw
    case rel=>exact⟨i+1,by go_num,om,HI3,x3⟩
    case measure=>simp[intOf];omega
   ·have HB2:=HB hv;have HSP:=lh (show splitE (ls.map (·.l)) top=validE ls[i].l by rw[splitE_bad (by rw[HB2.out];exact hv),HB2.out]);generalize hve:validE ls[i].l=ve at *;have hvb:(ve != 0)=true:=by simpa using hv
    clear hve HB HB2 HI2 HVB HVO HI;generalize ls[i]=hh at *;obtain⟨hA,hc,hl2⟩:=hh
    simp only at g0 HV
    go_wp2_with fail
    refine(HV _ (Ext.rfl' _)).out.mono ?_;rintro e w2 ⟨rfl,x2⟩;have x3:=x1.trans x2;clear HV g0 hsl
    go_wp2_with fail
    exact bodyPost_ret (v:=.tuple #[.slice none 0 0,.int .i64 ve]) (by simp[results,Tryz.results68,go_sem]) rfl ⟨none,0,[],by rw[HSP.out];rfl,LLS.nil _,by rw[HSP.out,if_neg hv];rfl,x3⟩
  ·have hiI:¬(i:Int)<ls.length:=om;have HV0:=HVO (fun j hj=>HI.out j hj om);clear HI HVO HVB;by_cases ht:top<0
   ·have HSP:=lh (splitE_top HV0.out (.inl ht));exact QAz3
   ·by_cases ht2:1114111<top
    ·have HSP:=lh (splitE_top HV0.out (.inr ht2));exact QAz3
    ·have HSE:=lh (splitE_ok HV0.out (show ¬(top<0\/1114111<top) by omega));have HVA:=lh (show ∀h∈ls,OkL h.l from fun h hh=>(validE_zero (vErr_zero HV0.out _ (List.mem_map_of_mem hh))).1);have hn1:¬(1024:Int)<ls.length:=om;have HEN:=lh (endsOf_any A c ls top wr (hl.ext x1) (fun h hh=>(okL_canon (HVA.out h hh)).2) om om (fun i k=>by have:=evU_len (top:=top) (ls:=ls) (i:=i) (k:=k);omega));clear HV0
     go_wp2_with fail
     refine HEN.out.mono ?_;rintro e w2 ⟨RA,rc,m,rfl,hpm,hpw,hE2,x2⟩;clear HEN;have hm64:∀s∈m,S64 s:=fun s hs=>by
      obtain⟨q,hq,t,ht3,h4,h5,h6⟩:=evs_mem.1 (hpm.mem_iff.2 hs);have hq1:q<ls.length:=by simpa using hq
      have hgt:=(okL_canon (HVA.out ls[q] (List.getElem_mem hq1))).2 t (by simpa using ht3);unfold goodS at hgt;have hq':q<1024:=by simp at hq;omega
      exact⟨by unfold I64;omega,by unfold I64;omega⟩
     have HRD:=lh (SL.of_own2 hE2 hm64);have HEV:=lh (EvOk.of om (fun a ha s hs=>by
      obtain⟨h,hh,rfl⟩:=List.mem_map.1 ha;exact(okL_canon (HVA.out h hh)).2 s hs) hpm hpw)
     have HPH:=lh (show ∀e,e<=top->∀q,par (m.filter (fun p=>decide (p.1<=e))) q=(if q<(ls.map (·.l)).length then has ((ls.map (·.l)).getD q []) e else false) from fun e he q=>by
      rw[<-par_has top e he (ls.map (·.l)) (fun a ha=>by
       obtain⟨h,hh,rfl⟩:=List.mem_map.1 ha;exact(okL_canon (HVA.out h hh)).1) q]
      exact(par_perm (hpm.filter _) q).symm)
     have HSM:=lh (show ∀p∈m,0<=p.2/\p.2<1024/\0<=p.1/\p.1<=top from fun p hp=>by
      obtain⟨q,hq,t,ht3,h4,h5,h6⟩:=evs_mem.1 (hpm.mem_iff.2 hp);have hq1:q<ls.length:=by simpa using hq
      have hgt:=(okL_canon (HVA.out ls[q] (List.getElem_mem hq1))).2 t (by simpa using ht3);unfold goodS at hgt;have hq':q<1024:=by simp at hq;omega
      omega)
     have hmlen:m.length<=20000:=by
      have h1:=hpm.length_eq;have h2:=evU_len (top:=top) (ls:=ls) (i:=ls.length) (k:=0);rw[evU_all] at h2;omega
     have hELN:=hE;have HEG:=lh (show ∀v,∀s∈cls (endsT top (ls.map (·.l))) top v,goodS s from cls_good HEV.out.ends HEV.out.head om);have HCL:Hid (classes (ls.map (·.l)) top=(keysU (ls.map (·.l)) (endsT top (ls.map (·.l))) (endsT top (ls.map (·.l))).length).map (fun v=>cls (endsT top (ls.map (·.l))) top (fun x=>decide (vec (ls.map (·.l)) x=v)))):=rfl;have hlsl:(ls.map (·.l)).length<=1024:=by simpa using hnl
     generalize hLS:ls.map (·.l)=LS at *;have HLS:=lh hLS;clear hLS;generalize endsT top LS=E at *;have bW:=Blk.new w2 242 ((List.replicate 16 (0:Int)).map (Value.int .u64)).toArray;have eW:=Ext.alloc w2 (.cells ((List.replicate 16 (0:Int)).map (Value.int .u64)).toArray 242);have mM:=MapAt.made (w2.alloc (.cells ((List.replicate 16 (0:Int)).map (Value.int .u64)).toArray 242)) k16V (Value.int .i64);have eM:=Ext.alloc (w2.alloc (.cells ((List.replicate 16 (0:Int)).map (Value.int .u64)).toArray 242)) (.map #[] 0);clear hpm hpw hE2 hm64
     go_upto_region 15 with fail
     have hs1:(w2.alloc (.cells ((List.replicate 16 (0:Int)).map (Value.int .u64)).toArray 242)).heap.size=w2.heap.size+1:=by simp
     rw[hs1] at mM;have bW2:=bW.ext eM;have X2:=eW.trans eM;have hRD:=HRD.out.ext X2;have X1:=x1.trans x2;change Blk ((w2.alloc (.cells #[.int .u64 0,.int .u64 0,.int .u64 0,.int .u64 0,.int .u64 0,.int .u64 0,.int .u64 0,.int .u64 0,.int .u64 0,.int .u64 0,.int .u64 0,.int .u64 0,.int .u64 0,.int .u64 0,.int .u64 0,.int .u64 0] 242)).alloc (.map #[] 0)) _ _ _ at bW2;change MapAt ((w2.alloc (.cells #[.int .u64 0,.int .u64 0,.int .u64 0,.int .u64 0,.int .u64 0,.int .u64 0,.int .u64 0,.int .u64 0,.int .u64 0,.int .u64 0,.int .u64 0,.int .u64 0,.int .u64 0,.int .u64 0,.int .u64 0,.int .u64 0] 242)).alloc (.map #[] 0)) _ _ _ _ at mM;change SL ((w2.alloc (.cells #[.int .u64 0,.int .u64 0,.int .u64 0,.int .u64 0,.int .u64 0,.int .u64 0,.int .u64 0,.int .u64 0,.int .u64 0,.int .u64 0,.int .u64 0,.int .u64 0,.int .u64 0,.int .u64 0,.int .u64 0,.int .u64 0] 242)).alloc (.map #[] 0)) _ _ _ at hRD;change Ext _ ((w2.alloc (.cells #[.int .u64 0,.int .u64 0,.int .u64 0,.int .u64 0,.int .u64 0,.int .u64 0,.int .u64 0,.int .u64 0,.int .u64 0,.int .u64 0,.int .u64 0,.int .u64 0,.int .u64 0,.int .u64 0,.int .u64 0,.int .u64 0] 242)).alloc (.map #[] 0)) at X2;generalize (w2.alloc (.cells #[.int .u64 0,.int .u64 0,.int .u64 0,.int .u64 0,.int .u64 0,.int .u64 0,.int .u64 0,.int .u64 0,.int .u64 0,.int .u64 0,.int .u64 0,.int .u64 0,.int .u64 0,.int .u64 0,.int .u64 0,.int .u64 0] 242)).alloc (.map #[] 0)=w3 at *;clear hs1 bW eW eM x1 x2 hmm;have HI0:Hid (SpI w3 w2.heap.size w2.heap.size (w2.heap.size+1) LS E top m 0 0 [] m (List.replicate 16 0) [] none 0 []):=⟨⟨rfl,by simp,fun p hp=>(HSM.out p hp).2.2.1⟩,WRep.zero.congr (fun q=>par_nil q),bW2,mM,rfl,fun n h=>by simp at h,SO.nil _ _,rfl,fun n h=>by simp at h⟩
     have HE0:=lh (show 0<E.length/\∀h:0<E.length,(0:Int)=E[0] from by
      have h:=HEV.out.head;rw[List.head?_eq_getElem?] at h;have hl:0<E.length:=by
       rcases Nat.eq_zero_or_pos E.length with h0|h0
       ·rw[List.getElem?_eq_none om] at h;cases h
       ·exact h0
      refine⟨hl,fun _=>?_⟩;rw[List.getElem?_eq_getElem hl] at h;injection h with h
      exact h.symm)
     go_wp2_with fail
     go_loopw [9,12,13] (fun v9 v12 v13 wr=>∃(i:Nat) (x:Int) (pre rem:List Sp) (RA:Option Addr) (rc:Nat) (ws:List Int) (ents:List (K16×Int)) (O:Option Addr) (cO:Nat) (hs:List Hs),v9=.slice RA rem.length rc/\v12=.slice O hs.length cO/\v13=.int .i64 x/\i<=E.length/\
      Hid ((∀h:i<E.length,x=E[i])/\(i=E.length->x=top+1)/\(∀n (h:n<hs.length),hs[n].l.length<=64)/\SL w2 RA rc rem/\SpI wr w2.heap.size w2.heap.size (w2.heap.size+1) LS E top m i x pre rem ws ents O cO hs)/\Ext w2 wr) (fun _ _ v _=>(top+1-intOf v).toNat)
     case atStart=>exact⟨0,0,[],m,RA,rc,List.replicate 16 0,[],none,0,[],rfl,rfl,rfl,Nat.zero_le _,⟨HE0.out.2,fun h=>absurd h (by have:=HE0.out.1;omega),fun n h=>by simp at h,HRD.out,HI0.out⟩,X2⟩
     case round=>
      clear HI0 HE0 X2 hRD bW2 mM;obtain⟨i,x,pre,rem,RA,rc,ws,ents,O,cO,hs,rfl,rfl,rfl,hiE,HX,x4⟩:=hrel;by_cases hiE2:i<E.length
      ·have hxe:=HX.out.1 hiE2;have hxt:x<=top:=by rw[hxe];exact HEV.out.ends.le _ (List.getElem_mem hiE2)
       have HXE:=lh hxe;have HIB:=lh hiE2;have HW0:=lh (show m=pre++rem/\(∀p∈pre,p.1<=x)/\(∀p∈rem,x<=p.1)/\WRep ws (par pre)/\Blk wr w2.heap.size 242 (ws.map (Value.int .u64)).toArray/\SL w2 RA rc rem/\MapAt wr (w2.heap.size+1) k16V (Value.int .i64) ents/\SO wr w2.heap.size O cO hs from
        ⟨HX.out.2.2.2.2.cut.1,fun p hp=>Int.le_of_lt (HX.out.2.2.2.2.cut.2.1 p hp),HX.out.2.2.2.2.cut.2.2,HX.out.2.2.2.2.rep,HX.out.2.2.2.2.blk,HX.out.2.2.2.1,HX.out.2.2.2.2.map,HX.out.2.2.2.2.out⟩)
       have HEK:=lh (show ents.length=(keysU LS E i).length/\(∀n (h:n<ents.length),ents[n].2=(n:Int)/\WRep ents[n].1.1 (fun q=>((keysU LS E i).getD n []).getD q false))/\hs.length=(keysU LS E i).length/\(∀n (h:n<hs.length),hs[n].l=clsU LS E top ((keysU LS E i).getD n []) i)/\(∀n (h:n<hs.length),hs[n].l.length<=64) from
        ⟨HX.out.2.2.2.2.elen,HX.out.2.2.2.2.keys,HX.out.2.2.2.2.hlen,HX.out.2.2.2.2.cls,HX.out.2.2.1⟩)
       clear HX hxe hiE
       go_wp2_with fail
       go_loopw [9] (fun v9 wm=>∃(pre rem:List Sp) (RA:Option Addr) (rc:Nat) (ws:List Int),v9=.slice RA rem.length rc/\Hid (m=pre++rem/\(∀p∈pre,p.1<=x)/\(∀p∈rem,x<=p.1)/\WRep ws (par pre)/\Blk wm w2.heap.size 242 (ws.map (Value.int .u64)).toArray/\SL w2 RA rc rem/\MapAt wm (w2.heap.size+1) k16V (Value.int .i64) ents/\SO wm w2.heap.size O cO hs)/\Ext w2 wm) (fun v _=>lenOf v)
       case atStart=>exact⟨pre,rem,RA,rc,ws,rfl,HW0,x4⟩
       case round=>
        clear HW0 x4;obtain⟨pre,rem,RA,rc,ws,rfl,HW,x5⟩:=hrel;by_cases hcx:∃p r,rem=p::r/\p.1=x
        ·obtain⟨p,rem',hre,hpx⟩:=hcx;subst hre;obtain⟨rem,hrm⟩:∃rem,rem=rem':=⟨_,rfl⟩;subst hrm;obtain⟨hmc,hpre,hrem,hrep,hblk,hsl,hmap,hso⟩:=HW.out;obtain⟨pb,po,rfl,g1,g2⟩:=(hsl.ext x5).get (k:=0) si;simp only[List.getElem_cons_zero,Nat.zero_mul,Nat.add_zero] at g1 g2;have hpm:=HSM.out p (by rw[hmc];simp);replace hmc:=lh hmc;obtain⟨qn,hqn⟩:∃qn:Nat,p.2=qn:=⟨p.2.toNat,om⟩;have hq100:qn<1024:=om;obtain⟨nw,hnw,hnl,_⟩:=hrep.2 (qn / 64) om;have HTG:=lh (hrep.toggle (q:=qn) om hnw);obtain⟨plo,phi⟩:=p
         simp only at hpx hqn g1 g2 hpm
         subst hqn;subst hpx;obtain⟨jn,hjn⟩:∃jn,jn=qn / 64:=⟨_,rfl⟩;obtain⟨rn,hrn⟩:∃rn,rn=qn % 64:=⟨_,rfl⟩
         rw[<-hjn] at hnw HTG
         rw[<-hrn] at HTG;have hcw:wr.cell? ⟨w2.heap.size,jn,none⟩=some (.int .u64 (nw:Int)):=by
          rw[hblk.cell];simp[hnw]
         have hcf:=hblk.frz jn;have kq1:=kx0 g2;have kq2:=kx0 hcw;have hr0:(0:Int)<(rem.length:Int)+1:=om;have hdv:IntKind.i64.wrap ((qn:Int) / 64)=(jn:Int):=wj;have hmd:IntKind.i64.wrap ((qn:Int) % 64)=(rn:Int):=wj;have hq16:(jn:Int)<16:=om;have htm:(qn:Int).tmod 64=(rn:Int):=by rw[Int.tmod_eq_emod_of_nonneg om];omega
         have hr64:rn<64:=om;have hjn16:jn<16:=om;have HXV:=lh (xor_pow nw rn hnl hr64);clear hjn hrn hnw
         go_upto_region 19 with fail
         refine Xs.start [w2.heap.size] 15 kr ?_;refine Xst 0 ?_;refine Xst 1 ?_;refine Xst 2 ?_;refine Xst 3 ?_;refine Xst 4 ?_;refine Xst 5 ?_;refine Xst 6 ?_;refine Xst 7 ?_;refine Xst 8 ?_;refine Xst 9 ?_;refine Xst 10 ?_;refine Xst 11 ?_;refine Xst 12 ?_;refine Xst 13 ?_;refine Xst 14 ?_;refine Xs.stop dK (fun w6 hE6 hX6=>?_);refine Xsp 15 fun w7 hE7 hK7 K hKK=>?_;have x67:=hX6.trans hE7;have hb7:=hblk.ext x67;have hc7:=x67.cell hcw;have hz7:=hb7.frz jn;go_simp;refine hKK _ _ (WI_setL (WI_refl _ _ _) List.mem_cons_self _ _) (hK7.setL List.mem_cons_self _ _) ?_;clear hKK;refine ptm ?_;refine Xdn fun w8 hE8 hK8=>?_;rw[HXV.out] at hE8;have kk:=(KpP.set (p:=(·=w2.heap.size)) (x:=⟨w2.heap.size,jn,none⟩) (KpP.of_ext x67) (.inl rfl) (.int .u64 ((nw ^^^ 2 ^ rn:Nat):Int))).trans (KpP.of_ext hE8);have hb8:=(hb7.set jn (.int .u64 ((nw ^^^ 2 ^ rn:Nat):Int))).ext hE8;rw[List.setIfInBounds_toArray,<-List.map_set] at hb8;have X8:=((x5.trans x67).setNew (p:=⟨w2.heap.size,jn,none⟩) (Nat.le_refl _) (.int .u64 ((nw ^^^ 2 ^ rn:Nat):Int))).trans hE8;have hm8:=hmap.kp kk (fun e=>hmap.ne hblk e);have hs8:=hso.kp hblk de de kk;have hgs:pb≠w2.heap.size:=by
          rintro rfl;rw[hblk.cell] at g1;have:(ws.map (Value.int .u64)).toArray[po]? = some (.int .i64 plo):=g1;simp at this
         have hsl8:=hsl;have hrl:=hsl8.le;have hrd:=hsl8.drop1;have HP8:=lh (show m=(pre++[(plo,(qn:Int))])++rem/\(∀p∈pre++[(plo,(qn:Int))],p.1<=plo)/\(∀p∈rem,plo<=p.1)/\WRep (ws.set jn ((nw ^^^ 2 ^ rn:Nat):Int)) (par (pre++[(plo,(qn:Int))])) from
          ⟨by rw[hmc.out];simp,fun p hp=>by
           rcases List.mem_append.1 hp with h|h
           ·exact hpre p h
           ·obtain rfl:=List.mem_singleton.1 h;exact Int.le_refl _,fun p hp=>hrem p (by simp[hp]),HTG.out.congr (fun z=>by
           rw[par_snoc];by_cases hz:z=qn
           ·subst hz;simp
           ·have:¬((qn:Int)=(z:Int)):=om;simp[hz,this])⟩)
         have HW8:=lh (And.intro hm8 hs8);have HB8:=lh hb8;clear HW hmc hpre hrem hrep hblk hsl hmap hso hm8 hs8 hb8 kk hE8 hK8 hE7 hK7 hE6 hX6 x67 hb7 hc7 hz7 hcw hcf kq1 kq2 hdv hmd hq16 htm HTG hgs g1 g2 hsl8 HXV;by_cases hrc:rc=1
         ·subst hrc;have hre:rem=[]:=by
           simp only[List.length_cons] at hrl;exact List.length_eq_zero_iff.1 om
          subst hre;have HW9:=lh (show m=(pre++[(plo,(qn:Int))])++[]/\(∀p∈pre++[(plo,(qn:Int))],p.1<=plo)/\(∀p∈([]:List Sp),plo<=p.1)/\WRep (ws.set jn ((nw ^^^ 2 ^ rn:Nat):Int)) (par (pre++[(plo,(qn:Int))]))/\Blk w8 w2.heap.size 242 ((ws.set jn ((nw ^^^ 2 ^ rn:Nat):Int)).map (Value.int .u64)).toArray/\SL w2 (some ⟨pb,po,none⟩) 0 []/\MapAt w8 (w2.heap.size+1) k16V (Value.int .i64) ents/\SO w8 w2.heap.size O cO hs from
           ⟨HP8.out.1,HP8.out.2.1,HP8.out.2.2.1,HP8.out.2.2.2,HB8.out,⟨Nat.le_refl _,Nat.zero_le _,by simp,fun h=>absurd rfl h⟩,HW8.out.1,HW8.out.2⟩)
          clear HP8 HW8 HB8 hrd hrl
          go_wp2_with fail
          go_roundw
          case rel=>exact⟨pre++[(plo,(qn:Int))],[],_,_,ws.set jn ((nw ^^^ 2 ^ rn:Nat):Int),rfl,HW9,X8⟩
          case measure=>simp[lenOf]
         ·have hrcI:¬(rc:Int)=1:=om;have HW9:=lh (show m=(pre++[(plo,(qn:Int))])++rem/\(∀p∈pre++[(plo,(qn:Int))],p.1<=plo)/\(∀p∈rem,plo<=p.1)/\WRep (ws.set jn ((nw ^^^ 2 ^ rn:Nat):Int)) (par (pre++[(plo,(qn:Int))]))/\Blk w8 w2.heap.size 242 ((ws.set jn ((nw ^^^ 2 ^ rn:Nat):Int)).map (Value.int .u64)).toArray/\SL w2 (some ⟨pb,po+2,none⟩) (rc-1) rem/\MapAt w8 (w2.heap.size+1) k16V (Value.int .i64) ents/\SO w8 w2.heap.size O cO hs from
           ⟨HP8.out.1,HP8.out.2.1,HP8.out.2.2.1,HP8.out.2.2.2,HB8.out,hrd,HW8.out.1,HW8.out.2⟩)
          clear HP8 HW8 HB8 hrd
          go_wp2_with fail
          go_roundw
          case rel=>exact⟨pre++[(plo,(qn:Int))],rem,_,_,ws.set jn ((nw ^^^ 2 ^ rn:Nat):Int),rfl,HW9,X8⟩
          case measure=>simp[lenOf]
        ·have HCX:=lh (show ∀p r,rem=p::r->¬p.1=x from fun p r h1 h2=>hcx ⟨p,r,h1,h2⟩);clear hcx;obtain⟨v0,v1,v2,v3,v4,v5,v6,v7,v8,v9,v10,v11,v12,v13,v14,v15,hwl⟩:=list16 HW.out.2.2.2.1.1;subst hwl;have HLV:∃lastV:Int,Hid (lastV=lastOf top rem):=⟨_,lh rfl⟩;obtain⟨lastV,HLV⟩:=HLV;obtain⟨hmc,hpre,hrem,hrep,hblk,hsl,hmap,hso⟩:=HW.out;have hcut:Cut m pre rem x:=⟨hmc,hpre,fun p hp=>by
          have hs:=HEV.out.srt;rw[hmc] at hs;have h2:=(List.pairwise_append.1 hs).2.1
          cases rem with
          | nil=>simp at hp
          | cons r rem=>
           have h3:=HCX.out r rem rfl;have h4:=hrem r si;rcases List.mem_cons.1 hp with rfl|h5
           ·omega
           ·have:=(List.pairwise_cons.1 h2).1 p h5;omega⟩
         have HPV:∀q,par pre q=(vec LS x).getD q false:=fun q=>by rw[vec_bits,<-HPH.out x hxt q,Cut.filter hcut]
         have HKA:=keys_at (K:=keysU LS E i) (v:=vec LS x) (ws:=[v0,v1,v2,v3,v4,v5,v6,v7,v8,v9,v10,v11,v12,v13,v14,v15]) (L:=LS.length) rfl (hrep.congr HPV) om (vec_len _ _) (keysU_all _ _ _) HEK.out.1 HEK.out.2.1;have hlk0:=(hmap.look klaw16 Tryz.underlying243 (zIntU _) (⟨[v0,v1,v2,v3,v4,v5,v6,v7,v8,v9,v10,v11,v12,v13,v14,v15],rfl⟩:K16)).2;have HNX:=lh (show(if h:i+1<E.length then E[i+1]-1 else top)=lastOf top rem from(HEV.out.next HIB.out (pre:=pre) (rem:=rem) (by rw[<-HXE.out];exact hcut)).trans (by cases rem<;>rfl));have c0:wr.cell? ⟨w2.heap.size,0,none⟩=some (.int .u64 v0):=by rw[hblk.cell];rfl
         have c1:wr.cell? ⟨w2.heap.size,1,none⟩=some (.int .u64 v1):=by rw[hblk.cell];rfl
         have c2:wr.cell? ⟨w2.heap.size,2,none⟩=some (.int .u64 v2):=by rw[hblk.cell];rfl
         have c3:wr.cell? ⟨w2.heap.size,3,none⟩=some (.int .u64 v3):=by rw[hblk.cell];rfl
         have c4:wr.cell? ⟨w2.heap.size,4,none⟩=some (.int .u64 v4):=by rw[hblk.cell];rfl
         have c5:wr.cell? ⟨w2.heap.size,5,none⟩=some (.int .u64 v5):=by rw[hblk.cell];rfl
         have c6:wr.cell? ⟨w2.heap.size,6,none⟩=some (.int .u64 v6):=by rw[hblk.cell];rfl
         have c7:wr.cell? ⟨w2.heap.size,7,none⟩=some (.int .u64 v7):=by rw[hblk.cell];rfl
         have c8:wr.cell? ⟨w2.heap.size,8,none⟩=some (.int .u64 v8):=by rw[hblk.cell];rfl
         have c9:wr.cell? ⟨w2.heap.size,9,none⟩=some (.int .u64 v9):=by rw[hblk.cell];rfl
         have c10:wr.cell? ⟨w2.heap.size,10,none⟩=some (.int .u64 v10):=by rw[hblk.cell];rfl
         have c11:wr.cell? ⟨w2.heap.size,11,none⟩=some (.int .u64 v11):=by rw[hblk.cell];rfl
         have c12:wr.cell? ⟨w2.heap.size,12,none⟩=some (.int .u64 v12):=by rw[hblk.cell];rfl
         have c13:wr.cell? ⟨w2.heap.size,13,none⟩=some (.int .u64 v13):=by rw[hblk.cell];rfl
         have c14:wr.cell? ⟨w2.heap.size,14,none⟩=some (.int .u64 v14):=by rw[hblk.cell];rfl
         have c15:wr.cell? ⟨w2.heap.size,15,none⟩=some (.int .u64 v15):=by rw[hblk.cell];rfl
         have HMP:=lh hmap;have HSO:=lh hso;have HCUT:=lh hcut;have HRV:=lh (hrep.congr HPV);clear hmc hpre hrem hrep hblk hsl hmap hso hcut HPV;by_cases hkn:vec LS x∈keysU LS E i
         ·obtain⟨n,hn,hKn⟩:=List.getElem_of_mem hkn;have hat:=HKA.2 n hn (keysU_nodup _ _ _) hKn;rw[hat] at hlk0;simp only[Option.map_some,Option.getD_some,Option.isSome_some] at hlk0;have hlk:(Instr.lookup 243 (.map (some (w2.heap.size+1))) (.agg #[.int .u64 v0,.int .u64 v1,.int .u64 v2,.int .u64 v3,.int .u64 v4,.int .u64 v5,.int .u64 v6,.int .u64 v7,.int .u64 v8,.int .u64 v9,.int .u64 v10,.int .u64 v11,.int .u64 v12,.int .u64 v13,.int .u64 v14,.int .u64 v15]) true).run Tryz.prog wr=.ok (.tuple #[.int .i64 n,.bool true]) wr:=hlk0;have hnh:n<hs.length:=by rw[HEK.out.2.2.1];exact hn
          obtain⟨ob,oo,hOA,hoc⟩:=OwnS.cells HSO.out.own (by intro e;have h0:=List.map_eq_nil_iff.1 e;rw[h0] at hnh;exact absurd hnh si);have co:wr.cell? ⟨ob,oo+n,none⟩=some (.slice hs[n].A hs[n].l.length hs[n].c):=by
           have:=hoc n (by simpa[flatH] using hnh)
           simpa[flatH] using this
          have hpn:=HSO.out.each _ (List.getElem_mem hnh);have hnI:(n:Int)<hs.length:=om;have HKN:=lh hKn;have HHN:=fun(w':World) (A':Option Addr) (c':Nat) (l':List Sp)=>lh (HSO.out.put hnh (w':=w') (A':=A') (c':=c') (l':=l'));subst hOA;clear HKA hlk0 hat hkn hKn hoc;generalize hhn:hs[n]=hh at *;replace hhn:=lh hhn;obtain⟨hA,hc,hl2⟩:=hh
          simp only at co
          have HLN:Hid (hl2=clsU LS E top (vec LS x) i):=by
           have h1:=HEK.out.2.2.2.1 n hnh;rw[hhn.out] at h1;have h2:(keysU LS E i).getD n []=vec LS x:=by
            rw[<-HKN.out];simp[List.getD_eq_getElem?_getD,show n<(keysU LS E i).length by rw[<-HEK.out.2.2.1];exact hnh]
           rw[h2] at h1;exact lh h1
          have HAD:=lh (add_any w2.heap.size hA hc hl2 (x,lastOf top rem) wr hpn x5.size (by rw[HLN.out];exact clsU_good HEV.out.ends HEV.out.head om) (by rw[<-HNX.out,HXE.out];exact seg_good HIB.out HEV.out.ends HEV.out.head om) (by rw[HLN.out];have:=clsU_len (ls:=LS) (E:=E) (top:=top) (v:=vec LS x) (i:=i);omega));rcases rem with _|⟨p,rem⟩
          ·simp only[lastOf,spV] at HAD;clear hpn
           go_wp2_with fail
           refine HAD.out.mono ?_;rintro e wA ⟨A',c',rfl,hoA,hkA,hatA⟩;obtain⟨g,hOe,hgb,cg,zg,hSO2⟩:=(HHN wA A' c' _).out hkA hoA hatA;injection hOe with hOe
           injection hOe with e1 e2
           subst e1;subst e2;clear HAD HHN;have hh1:¬(1024:Int)<hs.length:=by
            have h1:=HEK.out.2.2.1;have h2:=keysU_len LS E i;omega
           have HSP:=lh (SpI.old HEV.out HIB.out (HW.out.2.2.2.2.1) HMP.out HSO.out HW.out.2.2.2.1 (by rw[<-HXE.out];exact HCUT.out) HEK.out.1 HEK.out.2.1 HEK.out.2.2.1 HEK.out.2.2.2.1 hnh (by rw[HKN.out,HXE.out]) (by rw[hhn.out];exact hkA) rfl _ (by rw[<-HXE.out,<-HLN.out];exact hSO2));have X9:=(x5.kp hkA (fun b hb=>by
            have h1:=HSO.out.each _ (List.getElem_mem hnh);rw[hhn.out] at h1;exact h1.row hb)).setNew (p:=⟨ob,n,none⟩) hgb (Value.slice A' (addS hl2 (x,top)).length c')
           have HX9:=lh X9;clear X9;by_cases h64:(64:Int)<((addS hl2 (x,top)).length:Int)
           ·exact QAz1
           ·have H64:∀k (h:k<(hs.set n ⟨A',c',addS hl2 (x,top)⟩).length),(hs.set n ⟨A',c',addS hl2 (x,top)⟩)[k].l.length<=64:=fun k h=>by
             exact QAz5
            replace H64:=lh H64
            go_wp2_with fail
            refine⟨⟨i+1,lastOf top []+1,pre,[],RA,rc,[v0,v1,v2,v3,v4,v5,v6,v7,v8,v9,v10,v11,v12,v13,v14,v15],ents,_,cO,hs.set n ⟨A',c',addS hl2 (x,top)⟩,rfl,by rw[List.length_set],rfl,HIB.out,lh ⟨fun h=>?_,fun h=>?_,H64.out,HW.out.2.2.2.2.2.1,?_⟩,HX9.out⟩,?_⟩
            ·have:=HNX.out;rw[dif_pos h] at this;omega
            ·have:=HNX.out;rw[dif_neg om] at this;omega
            ·have:=HSP.out
             rw[<-HXE.out,<-HLN.out] at this;exact this
            ·simp only[intOf,lastOf];omega
          ·obtain⟨pb,po,hRA,g1,g2⟩:=(HW.out.2.2.2.2.2.1.ext x5).get (k:=0) si;simp only[List.getElem_cons_zero,Nat.zero_mul,Nat.add_zero] at g1 g2;subst hRA;obtain⟨plo,phi⟩:=p
           simp only at g1 g2
           have hpx:=HCX.out _ _ rfl;have hpx2:=HW.out.2.2.1 _ List.mem_cons_self;have hpm:=HSM.out (plo,phi) (by rw[HW.out.1];simp)
           simp only at hpx hpx2 hpm
           have hr0:(0:Int)<(rem.length:Int)+1:=om;simp only[lastOf,spV] at HAD;clear hpn
           go_wp2_with fail
           refine HAD.out.mono ?_;rintro e wA ⟨A',c',rfl,hoA,hkA,hatA⟩;obtain⟨g,hOe,hgb,cg,zg,hSO2⟩:=(HHN wA A' c' _).out hkA hoA hatA;injection hOe with hOe
           injection hOe with e1 e2
           subst e1;subst e2;clear HAD HHN;have hh1:¬(1024:Int)<hs.length:=by
            have h1:=HEK.out.2.2.1;have h2:=keysU_len LS E i;omega
           have HSP:=lh (SpI.old HEV.out HIB.out (HW.out.2.2.2.2.1) HMP.out HSO.out HW.out.2.2.2.1 (by rw[<-HXE.out];exact HCUT.out) HEK.out.1 HEK.out.2.1 HEK.out.2.2.1 HEK.out.2.2.2.1 hnh (by rw[HKN.out,HXE.out]) (by rw[hhn.out];exact hkA) rfl _ (by rw[<-HXE.out,<-HLN.out];exact hSO2));have X9:=(x5.kp hkA (fun b hb=>by
            have h1:=HSO.out.each _ (List.getElem_mem hnh);rw[hhn.out] at h1;exact h1.row hb)).setNew (p:=⟨ob,n,none⟩) hgb (Value.slice A' (addS hl2 (x,plo-1)).length c')
           have HX9:=lh X9;clear X9;by_cases h64:(64:Int)<((addS hl2 (x,plo-1)).length:Int)
           ·exact QAz1
           ·have H64:∀k (h:k<(hs.set n ⟨A',c',addS hl2 (x,plo-1)⟩).length),(hs.set n ⟨A',c',addS hl2 (x,plo-1)⟩)[k].l.length<=64:=fun k h=>by
             exact QAz5
            replace H64:=lh H64
            go_wp2_with fail
            refine⟨⟨i+1,lastOf top ((plo,phi)::rem)+1,pre,(plo,phi)::rem,_,rc,[v0,v1,v2,v3,v4,v5,v6,v7,v8,v9,v10,v11,v12,v13,v14,v15],ents,_,cO,hs.set n ⟨A',c',addS hl2 (x,plo-1)⟩,rfl,by rw[List.length_set],by simp only[lastOf];congr 1;omega,HIB.out,lh ⟨fun h=>?_,fun h=>?_,H64.out,HW.out.2.2.2.2.2.1,?_⟩,HX9.out⟩,?_⟩
            ·have:=HNX.out;rw[dif_pos h] at this;omega
            ·have:=HNX.out;rw[dif_neg om] at this;omega
            ·have:=HSP.out
             rw[<-HXE.out,<-HLN.out] at this;exact this
            ·simp only[intOf,lastOf];omega
         ·have hat:=HKA.1 hkn;rw[hat] at hlk0;simp only[Option.map_none,Option.getD_none,Option.isSome_none] at hlk0;have hlk:(Instr.lookup 243 (.map (some (w2.heap.size+1))) (.agg #[.int .u64 v0,.int .u64 v1,.int .u64 v2,.int .u64 v3,.int .u64 v4,.int .u64 v5,.int .u64 v6,.int .u64 v7,.int .u64 v8,.int .u64 v9,.int .u64 v10,.int .u64 v11,.int .u64 v12,.int .u64 v13,.int .u64 v14,.int .u64 v15]) true).run Tryz.prog wr=.ok (.tuple #[.int .i64 0,.bool false]) wr:=hlk0;obtain⟨wp,hput0,hmp,kp⟩:=putW HMP.out klaw16 Tryz.underlying243 (⟨[v0,v1,v2,v3,v4,v5,v6,v7,v8,v9,v10,v11,v12,v13,v14,v15],rfl⟩:K16) (hs.length:Int);have hput:(Instr.mapUpdate 243 (.map (some (w2.heap.size+1))) (.agg #[.int .u64 v0,.int .u64 v1,.int .u64 v2,.int .u64 v3,.int .u64 v4,.int .u64 v5,.int .u64 v6,.int .u64 v7,.int .u64 v8,.int .u64 v9,.int .u64 v10,.int .u64 v11,.int .u64 v12,.int .u64 v13,.int .u64 v14,.int .u64 v15]) (.int .i64 (hs.length:Int))).run Tryz.prog wr=.ok () wp:=hput0;rw[putL_new hat] at hmp;have HS1:=lh (HSO.out.kpm HMP.out kp);have xp:=x5.kp kp (fun b hb=>by rw[hb];omega);have HMP1:=lh hmp;have HB1:=lh (kp.blk HW.out.2.2.2.2.1 (fun e=>HMP.out.ne HW.out.2.2.2.2.1 e.symm));have HKN:=lh hkn;obtain⟨i0,hi0,hz0,hz1,hz2⟩:=info_parts infoSl;have hh1:hs.length<=1000:=by
           have h1:=HEK.out.2.2.1;have h2:=keysU_len LS E i;omega
          have HKP:=lh kp;clear hput0 hlk0 hat HKA hkn hmp kp;rcases rem with _|⟨p,rem⟩
          ·go_upto_region 29 with((at_builtin;refine wpList_app _ rfl _ _ _ rfl w2.heap.size 25 i0 (.slice none 0 0) 1 24 Tryz.underlying135 hi0 hz0 hz1 hz2 rfl om O hs.length cO (flatH hs) rfl (OwnS.ext HS1.out.own (Ext.alloc _ _)) _ 1 1 [.slice none 0 0] rfl rfl (blk_cells (Blk.new _ _ _)) (by intro u hu;obtain rfl:=List.mem_singleton.1 hu;rfl) um om (xp.trans (Ext.alloc _ _)).size ?_;intro E2 cE2 w4 ho4 hg4 hat4))
           have hs4:=lh ((HS1.out.ext (Ext.alloc _ _)).add hg4 ho4);have X4:=Ext.app (xp.trans (Ext.alloc _ _)) (OwnS.ext HS1.out.own (Ext.alloc _ _)) hg4;have HAD:=lh (add_any w2.heap.size none 0 [] (x,lastOf top []) w4 (OwnS.nil _ _ _ _) X4.size si (by rw[<-HNX.out,HXE.out];exact seg_good HIB.out HEV.out.ends HEV.out.head om) si);simp only[lastOf,spV] at HAD;obtain⟨eb,eo,hE2,hoc⟩:=OwnS.cells ho4 si;have co:w4.cell? ⟨eb,eo+hs.length,none⟩=some (.slice none 0 0):=by
            have:=hoc hs.length (by simp[flatH])
            simpa[flatH] using this
           subst hE2;clear hoc
           go_wp2_with fail
           refine HAD.out.mono ?_;rintro e wA ⟨A',c',rfl,hoA,hkA,hatA⟩;obtain⟨g,hOe,hgb,cg,zg,hSO2⟩:=SO.putNew hs4.out hkA hoA hatA;injection hOe with hOe
           injection hOe with e1 e2
           subst e1;subst e2;clear HAD;have HMB:=lh (new_kept (n:=hs.length) HMP1.out HB1.out HS1.out hg4 hs4.out rfl hkA (.slice A' (addS [] (x,top)).length c'));have X9:=(X4.kp hkA (fun b hb=>by simp at hb)).setNew (p:=⟨eb,hs.length,none⟩) hgb (Value.slice A' (addS [] (x,top)).length c');have HX9:=lh X9;clear X9;have HSP:=lh (SpI.new HEV.out HIB.out rfl HMB.out.2 HMB.out.1 HW.out.2.2.2.1 (by rw[<-HXE.out];exact HRV.out) (by rw[<-HXE.out];exact HCUT.out) HEK.out.1 HEK.out.2.1 HEK.out.2.2.1 HEK.out.2.2.2.1 (by rw[<-HXE.out];exact HKN.out) (by rw[<-HXE.out];exact hSO2));have HZL:Hid ((addS [] (x,top)).length<=1):=lh (by have:=(addS_len [] (x,top)).2;simpa using this);have h64:¬(64:Int)<((addS [] (x,top)).length:Int):=by have:=HZL.out;omega
           have hh2:¬(1024:Int)<(hs.length:Int)+1:=om;have H64:∀k (h:k<(hs++[(⟨A',c',addS [] (x,top)⟩:Hs)]).length),(hs++[(⟨A',c',addS [] (x,top)⟩:Hs)])[k].l.length<=64:=fun k h=>by
            exact QAz2
           replace H64:=lh H64;generalize hz:addS [] (x,top)=zl at *;replace hz:=lh hz
           go_wp2_with fail
           refine⟨⟨i+1,lastOf top []+1,pre,[],RA,rc,[v0,v1,v2,v3,v4,v5,v6,v7,v8,v9,v10,v11,v12,v13,v14,v15],ents++[((⟨[v0,v1,v2,v3,v4,v5,v6,v7,v8,v9,v10,v11,v12,v13,v14,v15],rfl⟩:K16),(hs.length:Int))],_,cE2,hs++[(⟨A',c',zl⟩:Hs)],rfl,by rw[List.length_append];rfl,rfl,HIB.out,lh ⟨fun h=>?_,fun h=>?_,H64.out,HW.out.2.2.2.2.2.1,?_⟩,HX9.out⟩,?_⟩
           ·have:=HNX.out;rw[dif_pos h] at this;omega
           ·have:=HNX.out;rw[dif_neg om] at this;omega
           ·exact QAz4
           ·simp only[intOf,lastOf];omega
          ·obtain⟨pb,po,hRA,g1,g2⟩:=(HW.out.2.2.2.2.2.1.ext x5).get (k:=0) si;simp only[List.getElem_cons_zero,Nat.zero_mul,Nat.add_zero] at g1 g2;subst hRA;obtain⟨plo,phi⟩:=p
           simp only at g1 g2
           have hpx:=HCX.out _ _ rfl;have hpx2:=HW.out.2.2.1 _ List.mem_cons_self;have hpm:=HSM.out (plo,phi) (by rw[HW.out.1];simp)
           simp only at hpx hpx2 hpm
           have hr0:(0:Int)<(rem.length:Int)+1:=om
           go_upto_region 29 with((at_builtin;refine wpList_app _ rfl _ _ _ rfl w2.heap.size 25 i0 (.slice none 0 0) 1 24 Tryz.underlying135 hi0 hz0 hz1 hz2 rfl om O hs.length cO (flatH hs) rfl (OwnS.ext HS1.out.own (Ext.alloc _ _)) _ 1 1 [.slice none 0 0] rfl rfl (blk_cells (Blk.new _ _ _)) (by intro u hu;obtain rfl:=List.mem_singleton.1 hu;rfl) um om (xp.trans (Ext.alloc _ _)).size ?_;intro E2 cE2 w4 ho4 hg4 hat4))
           have hs4:=lh ((HS1.out.ext (Ext.alloc _ _)).add hg4 ho4);have X4:=Ext.app (xp.trans (Ext.alloc _ _)) (OwnS.ext HS1.out.own (Ext.alloc _ _)) hg4;have HAD:=lh (add_any w2.heap.size none 0 [] (x,lastOf top ((plo,phi)::rem)) w4 (OwnS.nil _ _ _ _) X4.size si (by rw[<-HNX.out,HXE.out];exact seg_good HIB.out HEV.out.ends HEV.out.head om) si);simp only[lastOf,spV] at HAD;obtain⟨eb,eo,hE2,hoc⟩:=OwnS.cells ho4 si;have co:w4.cell? ⟨eb,eo+hs.length,none⟩=some (.slice none 0 0):=by
            have:=hoc hs.length (by simp[flatH])
            simpa[flatH] using this
           subst hE2;clear hoc
           go_wp2_with fail
           refine HAD.out.mono ?_;rintro e wA ⟨A',c',rfl,hoA,hkA,hatA⟩;obtain⟨g,hOe,hgb,cg,zg,hSO2⟩:=SO.putNew hs4.out hkA hoA hatA;injection hOe with hOe
           injection hOe with e1 e2
           subst e1;subst e2;clear HAD;have HMB:=lh (new_kept (n:=hs.length) HMP1.out HB1.out HS1.out hg4 hs4.out rfl hkA (.slice A' (addS [] (x,plo-1)).length c'));have X9:=(X4.kp hkA (fun b hb=>by simp at hb)).setNew (p:=⟨eb,hs.length,none⟩) hgb (Value.slice A' (addS [] (x,plo-1)).length c');have HX9:=lh X9;clear X9;have HSP:=lh (SpI.new HEV.out HIB.out rfl HMB.out.2 HMB.out.1 HW.out.2.2.2.1 (by rw[<-HXE.out];exact HRV.out) (by rw[<-HXE.out];exact HCUT.out) HEK.out.1 HEK.out.2.1 HEK.out.2.2.1 HEK.out.2.2.2.1 (by rw[<-HXE.out];exact HKN.out) (by rw[<-HXE.out];exact hSO2));have HZL:Hid ((addS [] (x,plo-1)).length<=1):=lh (by have:=(addS_len [] (x,plo-1)).2;simpa using this);have h64:¬(64:Int)<((addS [] (x,plo-1)).length:Int):=by have:=HZL.out;omega
           have hh2:¬(1024:Int)<(hs.length:Int)+1:=om;have H64:∀k (h:k<(hs++[(⟨A',c',addS [] (x,plo-1)⟩:Hs)]).length),(hs++[(⟨A',c',addS [] (x,plo-1)⟩:Hs)])[k].l.length<=64:=fun k h=>by
            exact QAz2
           replace H64:=lh H64;generalize hz:addS [] (x,plo-1)=zl at *;replace hz:=lh hz
           go_wp2_with fail
           refine⟨⟨i+1,lastOf top ((plo,phi)::rem)+1,pre,(plo,phi)::rem,_,rc,[v0,v1,v2,v3,v4,v5,v6,v7,v8,v9,v10,v11,v12,v13,v14,v15],ents++[((⟨[v0,v1,v2,v3,v4,v5,v6,v7,v8,v9,v10,v11,v12,v13,v14,v15],rfl⟩:K16),(hs.length:Int))],_,cE2,hs++[(⟨A',c',zl⟩:Hs)],rfl,by rw[List.length_append];rfl,by simp only[lastOf];congr 1;omega,HIB.out,lh ⟨fun h=>?_,fun h=>?_,H64.out,HW.out.2.2.2.2.2.1,?_⟩,HX9.out⟩,?_⟩
           ·have:=HNX.out;rw[dif_pos h] at this;omega
           ·have:=HNX.out;rw[dif_neg om] at this;omega
           ·exact QAz4
           ·simp only[intOf,lastOf];omega
      ·have hie:i=E.length:=om;have hxt:x=top+1:=HX.out.2.1 hie;subst hxt;have HS0:=lh (split_0 HCL.out HSE.out (by rw[<-hie];exact HX.out.2.2.2.2.hlen) (by rw[<-hie];exact HX.out.2.2.2.2.cls) HX.out.2.2.1);have HLL:=lh (HX.out.2.2.2.2.out.sl (fun z hz s hs2=>by
        obtain⟨k,hk,rfl⟩:=List.getElem_of_mem hz;rw[HX.out.2.2.2.2.cls k hk] at hs2;exact clsU_good HEV.out.ends HEV.out.head om s hs2))
       clear HX
       go_wp2_with fail
       exact bodyPost_ret (v:=.tuple #[.slice O hs.length cO,.int .i64 0]) (by simp[results,Tryz.results68,go_sem]) rfl (by rw[HLS.out];exact⟨O,cO,hs,by rw[HS0.out.1],HLL.out,by rw[HS0.out.1,if_pos rfl];exact HS0.out.2,X1.trans x4⟩)
end
end Go.Proofs.YtmpcoifnpflapaaGreat
