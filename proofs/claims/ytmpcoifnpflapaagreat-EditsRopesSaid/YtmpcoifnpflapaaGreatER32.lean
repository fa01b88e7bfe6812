/- Texts of this proof: G20 G22 G23 G21 G24 G26 P7 G27 G28. -/
import Derived.Test.YtmpcoifnpflapaaGreatER30
import Derived.Shelf.SlSortCmp.NoneTotal
import Derived.ChangeKeysEq
set_option linter.all false
set_option maxRecDepth 100000
set_option maxHeartbeats 8000000
namespace Go.Proofs.YtmpcoifnpflapaaGreat
section
open Go.RowKit
def evS (i:Nat)(top:Int)(s:Sp):List Sp:=(if s.1<=top then[(s.1,(i:Int))] else[])++(if s.2+1<=top then[(s.2+1,(i:Int))] else[])
def evL (top:Int)(i:Nat)(l:List Sp):List Sp:=l.flatMap (evS i top)
def evs (top:Int)(ls:List (List Sp)):List Sp:=(List.range ls.length).flatMap (fun q=>evL top q (ls.getD q []))
def evU (top:Int)(ls:List Hs)(i k:Nat):List Sp:=((List.range i).flatMap (fun q=>evL top q ((ls.map (·.l)).getD q [])))++evL top i (((ls.map (·.l)).getD i []).take k)
theorem evU_zero (top:Int)(ls:List Hs)(i:Nat):evU top ls i 0=(List.range i).flatMap (fun q=>evL top q ((ls.map (·.l)).getD q [])):=by simp[evU,evL]
theorem evU_getD {ls:List Hs}{i:Nat}(hi:i<ls.length):(ls.map (·.l)).getD i []=ls[i].l:=by simp[List.getD_eq_getElem?_getD,hi]
theorem evU_next {top:Int}{ls:List Hs}{i:Nat}(hi:i<ls.length):evU top ls i ls[i].l.length=evU top ls (i+1) 0:=by
 rw[evU_zero,List.range_succ,List.flatMap_append];unfold evU;rw[evU_getD hi,List.take_length]
 congr 1
 simp only[List.flatMap_cons,List.flatMap_nil,List.append_nil];rw[evU_getD hi]
theorem evU_step {top:Int}{ls:List Hs}{i k:Nat}(hi:i<ls.length)(hk:k<ls[i].l.length):evU top ls i (k+1)=evU top ls i k++evS i top ls[i].l[k]:=by
 unfold evU;rw[evU_getD hi,List.take_succ_eq_append_getElem hk];unfold evL;rw[List.flatMap_append,List.append_assoc]
 simp
theorem evU_all (top:Int)(ls:List Hs):evU top ls ls.length 0=evs top (ls.map (·.l)):=by
 rw[evU_zero];unfold evs;rw[List.length_map]
theorem evS_len (i:Nat)(top:Int)(s:Sp):(evS i top s).length<=2:=by
 unfold evS;split<;>split<;>simp
theorem evL_len (top:Int)(i:Nat)(l:List Sp):(evL top i l).length<=2*l.length:=by
 unfold evL;induction l with
 | nil=>simp
 | cons s l ih=>
  have:=evS_len i top s;simp only[List.flatMap_cons,List.length_append,List.length_cons];omega
theorem evU_ok {top:Int}{ls:List Hs}(hg:∀h∈ls,∀s∈h.l,goodS s)(i k:Nat):∀p∈evU top ls i k,enOk p/\p.1<=top/\0<=p.2/\p.2<=i:=by
 have key:∀q (l:List Sp),(∀s∈l,goodS s)->∀p∈evL top q l,enOk p/\p.1<=top/\p.2=q:=fun q l hl p hp=>by
  obtain⟨s,hs,hp⟩:=List.mem_flatMap.1 hp;have h:=hl s hs;unfold goodS at h;unfold evS at hp;unfold enOk;rcases List.mem_append.1 hp with hp|hp
  ·split at hp
   ·rename_i hc
    obtain rfl:=List.mem_singleton.1 hp;exact⟨⟨h.1,by simp only;omega⟩,hc,rfl⟩
   ·simp at hp
  ·split at hp
   ·rename_i hc
    obtain rfl:=List.mem_singleton.1 hp;exact⟨⟨by simp only;omega,by simp only;omega⟩,hc,rfl⟩
   ·simp at hp
 have hgd:∀q,∀s∈(ls.map (·.l)).getD q [],goodS s:=fun q s hs=>by
  rcases Nat.lt_or_ge q ls.length with h|h
  ·rw[evU_getD h] at hs;exact hg _ (List.getElem_mem h) s hs
  ·rw[List.getD_eq_getElem?_getD,List.getElem?_eq_none (by simpa using h)] at hs;simp at hs
 intro p hp;unfold evU at hp;rcases List.mem_append.1 hp with hp|hp
 ·obtain⟨q,hq,hp⟩:=List.mem_flatMap.1 hp;have hqi:=List.mem_range.1 hq;have:=key q _ (hgd q) p hp;exact⟨this.1,this.2.1,om,om⟩
 ·have:=key i _ (fun s hs=>hgd i s (List.mem_of_mem_take hs)) p hp;exact⟨this.1,this.2.1,om,om⟩
theorem OwnE.some {w:World}{base c:Nat}{A:Option Addr}{l:List Sp}(h:OwnE w base A c l):(A=none/\c=0/\l=[])\/∃g,A=some ⟨g,0,none⟩:=by
 rcases OwnS.form h with⟨h1,h2,h3,_⟩|⟨g,cur,h1,_⟩
 ·exact .inl ⟨h1,h3,List.length_eq_zero_iff.1 h2⟩
 ·exact .inr ⟨g,h1⟩
theorem sortNoneE (p:Option Addr)(c:Nat)(fv:Value)(w:World):Calls Tryz.prog 183 #[.slice p 0 c,fv] w (fun e w'=>e=.returned (.tuple #[])/\w'=w):=by
 have h:=AnyF.slices_SortFunc_none Tryz.sortEnd p c fv w;change Calls Tryz.prog 183 _ _ _ at h;exact h
theorem sortAnyE (base c:Nat)(A:Option Addr)(l:List Sp)(hg:∀s∈l,enOk s)(w:World)(hl:OwnE w base A c l)(hlen:l.length<=1000000) :
 Calls Tryz.prog 183 #[.slice A l.length c,.func (.func 184) #[] #[]] w (fun e w'=>e=.returned (.tuple #[])/\∃m:List Sp,l.Perm m/\m.Pairwise (fun s t=>s.1<=t.1)/\m.length=l.length/\OwnE w' base A c m/\KpP (fun b=>A.map (·.block)=some b) w w'):=by
 rcases hl.some with⟨rfl,rfl,rfl⟩|⟨g,rfl⟩
 ·refine(sortNoneE none 0 _ w).mono ?_;rintro e w' ⟨rfl,rfl⟩;exact⟨rfl,[],List.Perm.refl _,List.Pairwise.nil,rfl,hl,KpP.refl _ _⟩
 ·refine(sortE_any base g c l hg w hl hlen).mono ?_;rintro e w' ⟨rfl,m,h1,h2,h3,h4,h5⟩;exact⟨rfl,m,h1,h2,h3,h4,h5.mono (fun k hk=>by simp[hk])⟩
theorem endsOf_any (A:Option Addr)(c:Nat)(ls:List Hs)(top:Int)(w:World)(hl:LLS w A c ls)(hg:∀h∈ls,∀s∈h.l,goodS s)(hlen:(ls.map (·.l)).flatten.length<=10000)(hnl:ls.length<=100000)(hbound:∀i k,(evU top ls i k).length<=100000) :
 Calls Tryz.prog 133 #[.slice A ls.length c,.int .i64 top] w (fun e w'=>∃(E:Option Addr) (cE:Nat) (m:List Sp),e=.returned (.slice E m.length cE)/\(evs top (ls.map (·.l))).Perm m/\m.Pairwise (fun s t=>s.1<=t.1)/\OwnE w' w.heap.size E cE m/\Ext w w'):=by
 obtain⟨iE,jE0,jE1,jE2,jE3⟩:=info_parts infoEn;have hcap:=hl.len;have HEA:=lh (evU_all top ls);have HE0:=lh (evU_zero top ls 0);have HOKE:=fun(i k:Nat)=>lh (evU_ok (top:=top) hg i k);have HBN:=lh hbound;clear hbound;go_enter Tryz.func133,Tryz.ntmps133
 go_wp2_with fail
 go_loopw [5,12] (fun v5 v12 wr=>∃(i:Nat) (E:Option Addr) (cE:Nat) (xs:List Sp),v12=.int .i64 i/\i<=ls.length/\v5=.slice E xs.length cE/\Hid (xs=evU top ls i 0/\OwnE wr w.heap.size E cE xs)/\Ext w wr) (fun _ v _=>ls.length-(intOf v).toNat)
 case atStart=>exact⟨0,none,0,[],rfl,om,rfl,⟨by rw[HE0.out];rfl,OwnS.nil _ _ _ _⟩,Ext.rfl' _⟩
 case round=>
  obtain⟨i,E,cE,xs,rfl,hi,rfl,HX,x1⟩:=hrel;by_cases hlt:i<ls.length
  ·have hiI:(i:Int)<ls.length:=om;obtain⟨pb,po,rfl,g0⟩:=(hl.ext x1).get hlt;have hsl:=hl.sl _ (List.getElem_mem hlt);have hgg:=hg _ (List.getElem_mem hlt);have hsll:=hsl.len;have HNX:=lh (evU_next (top:=top) hlt);have HSTP:=fun(k:Nat) (hk:k<ls[i].l.length)=>lh (evU_step (top:=top) hlt hk);generalize ls[i]=hh at *;obtain⟨hA,hc,hl2⟩:=hh
   simp only at g0 hsl hgg hsll HNX HSTP
   go_wp2_with fail
   go_loopw [5,19] (fun v5 v19 wk=>∃(q:Nat) (E:Option Addr) (cE:Nat) (xs:List Sp),v19=.int .i64 q/\q<=hl2.length/\v5=.slice E xs.length cE/\Hid (xs=evU top ls i q/\OwnE wk w.heap.size E cE xs)/\Ext w wk) (fun _ v _=>hl2.length-(intOf v).toNat)
   case atStart=>exact⟨0,E,cE,xs,rfl,om,rfl,HX,x1⟩
   case round=>
    clear HX x1;obtain⟨q,E,cE,xs,rfl,hq,rfl,HX,xk⟩:=hrel;by_cases hkl:q<hl2.length
    ·have hkI:(q:Int)<hl2.length:=om;obtain⟨sb,so,rfl,g1,g2⟩:=(hsl.ext xk).get hkl;have hgs:=hgg _ (List.getElem_mem hkl);have HS2:=HSTP q hkl;generalize hl2[q]=s at *;obtain⟨lo,hi2⟩:=s;have hgs':0<=lo/\lo<=hi2/\hi2<=1114111:=hgs
     simp only at g1 g2 HS2
     have hw1:IntKind.i64.wrap (hi2+1)=hi2+1:=wj;obtain⟨b1,xa⟩:=alloc1 wr 24 #[.int .i64 lo,.int .i64 hi2];obtain⟨p0,p1,_,_,pz⟩:=b1.c2
     go_upto_region 8 with fail
     obtain⟨gs,hgs2⟩:∃gs,gs=wr.heap.size:=⟨_,rfl⟩
     rw[<-hgs2] at b1 p0 p1 pz ⊢;generalize wr.alloc (.cells #[.int .i64 lo,.int .i64 hi2] 24)=wa at *;have hxb:xs.length<=100000:=by have:=HBN.out i q;rw[<-HX.out.1] at this;omega
     have HO:=lh (OwnS.ext HX.out.2 xa);have hXA:=xk.trans xa;have HSE:=lh (show xs++evS i top (lo,hi2)=evU top ls i (q+1) by rw[HS2.out,HX.out.1]);clear HX HS2 HSTP hgs hgg hgs2 xa xk;by_cases hlo:lo<=top
     ·by_cases hhi:hi2+1<=top
      ·have HSE2:Hid (xs++[(lo,(i:Int))]++[(hi2+1,(i:Int))]=evU top ls i (q+1)):=by
        have h:=HSE.out;simp only[evS,if_pos hlo,if_pos hhi] at h
        show _=_
        rw[<-h,List.append_assoc]
       have HL2:=lh (show(xs++[(lo,(i:Int))]++[(hi2+1,(i:Int))]).length=xs.length+1+1 by simp);clear HSE
       go_wp2_with (first|(at_builtin;refine wpList_app _ rfl _ _ _ rfl w.heap.size 245 iE _ 2 16 Tryz.underlying239 jE0 jE1 jE2 jE3 rfl om E2 (xs.length+1) cE2 (flatS xs++flatS [(lo,(i:Int))]) rfl (OwnS.ext ho4 (Ext.alloc _ _)) _ 1 1 (flatS [(hi2+1,(i:Int))]) rfl rfl (blk_cells (Blk.new _ _ _)) (flatS_one _) um om (x4.trans (Ext.alloc _ _)).size ?_;intro E3 cE3 w5 ho5 hg5 hat5;have x5:=Ext.app (x4.trans (Ext.alloc _ _)) (OwnS.ext ho4 (Ext.alloc _ _)) hg5)|(at_builtin;refine wpList_app _ rfl _ _ _ rfl w.heap.size 245 iE _ 2 16 Tryz.underlying239 jE0 jE1 jE2 jE3 rfl om E xs.length cE (flatS xs) rfl (OwnS.ext HO.out (Ext.alloc _ _)) _ 1 1 (flatS [(lo,(i:Int))]) rfl rfl (blk_cells (Blk.new _ _ _)) (flatS_one _) um om (hXA.trans (Ext.alloc _ _)).size ?_;intro E2 cE2 w4 ho4 hg4 hat4;have x4:=Ext.app (hXA.trans (Ext.alloc _ _)) (OwnS.ext HO.out (Ext.alloc _ _)) hg4;have kk4:=(KpP.of_ext (p:=fun b=>E.map (·.block)=some b) (Ext.alloc wa (.cells #[.int .i64 lo,.int .i64 (i:Int)] 245))).trans (KpP.of_grown hg4);have b4:=kk4.blk b1 (own_blk HO.out b1 de);have q0:=b4.cell 0;have q1:=b4.cell 1;simp only[List.getElem?_toArray,List.getElem?_cons_succ,List.getElem?_cons_zero] at q0 q1))
       have HX2:Hid (xs++[(lo,(i:Int))]++[(hi2+1,(i:Int))]=evU top ls i (q+1)/\OwnE w5 w.heap.size E3 cE3 (xs++[(lo,(i:Int))]++[(hi2+1,(i:Int))])):=⟨HSE2.out,by unfold OwnE;rw[HL2.out,flatS_append,flatS_append];exact ho5⟩;clear ho4 hg4 hat4 ho5 hg5 hat5 HO;go_roundw
       case rel=>exact⟨q+1,E3,cE3,xs++[(lo,(i:Int))]++[(hi2+1,(i:Int))],by go_num,om,by rw[HL2.out],HX2,x5⟩
       case measure=>simp[intOf];omega
      ·have HSE2:Hid (xs++[(lo,(i:Int))]=evU top ls i (q+1)):=by
        have h:=HSE.out;simp only[evS,if_pos hlo,if_neg hhi,List.append_nil] at h;exact h
       have HL2:=lh (show(xs++[(lo,(i:Int))]).length=xs.length+1 by simp);clear HSE
       go_wp2_with ((at_builtin;refine wpList_app _ rfl _ _ _ rfl w.heap.size 245 iE _ 2 16 Tryz.underlying239 jE0 jE1 jE2 jE3 rfl om E xs.length cE (flatS xs) rfl (OwnS.ext HO.out (Ext.alloc _ _)) _ 1 1 (flatS [(lo,(i:Int))]) rfl rfl (blk_cells (Blk.new _ _ _)) (flatS_one _) um om (hXA.trans (Ext.alloc _ _)).size ?_;intro E2 cE2 w4 ho4 hg4 hat4;have x4:=Ext.app (hXA.trans (Ext.alloc _ _)) (OwnS.ext HO.out (Ext.alloc _ _)) hg4;have kk4:=(KpP.of_ext (p:=fun b=>E.map (·.block)=some b) (Ext.alloc wa (.cells #[.int .i64 lo,.int .i64 (i:Int)] 245))).trans (KpP.of_grown hg4);have b4:=kk4.blk b1 (own_blk HO.out b1 de);have q0:=b4.cell 0;have q1:=b4.cell 1;simp only[List.getElem?_toArray,List.getElem?_cons_succ,List.getElem?_cons_zero] at q0 q1))
       have HX2:Hid (xs++[(lo,(i:Int))]=evU top ls i (q+1)/\OwnE w4 w.heap.size E2 cE2 (xs++[(lo,(i:Int))])):=⟨HSE2.out,by unfold OwnE;rw[HL2.out,flatS_append];exact ho4⟩;clear ho4 hg4 hat4 HO;go_roundw
       case rel=>exact⟨q+1,E2,cE2,xs++[(lo,(i:Int))],by go_num,om,by rw[HL2.out],HX2,x4⟩
       case measure=>simp[intOf];omega
     ·have hhi:¬hi2+1<=top:=om;have HSE2:Hid (xs=evU top ls i (q+1)):=by
       have h:=HSE.out;simp only[evS,if_neg hlo,if_neg hhi,List.append_nil] at h;exact h
      have HX2:=lh (And.intro HSE2.out HO.out);clear HSE HSE2 HO
      go_wp2_with fail
      go_roundw
      case rel=>exact⟨q+1,E,cE,xs,by go_num,om,rfl,HX2,hXA⟩
      case measure=>simp[intOf];omega
    ·have hkI:¬(q:Int)<hl2.length:=om;have hke:q=hl2.length:=om;have HX4:=lh (show xs=evU top ls (i+1) 0/\OwnE wr w.heap.size E cE xs from⟨by rw[HX.out.1,hke];exact HNX.out,HX.out.2⟩);clear hke HX HSTP hgg
     go_wp2_with fail
     go_roundw
     case rel=>exact⟨i+1,E,cE,xs,by go_num,om,rfl,HX4,xk⟩
     case measure=>simp[intOf];omega
  ·have hiI:¬(i:Int)<ls.length:=om;have hie:i=ls.length:=om;have HXE:=lh (show xs=evs top (ls.map (·.l)) by rw[HX.out.1,hie,HEA.out]);have hxb:xs.length<=100000:=by have:=HBN.out i 0;rw[<-HX.out.1] at this;omega
   have HSO:=lh (sortAnyE w.heap.size cE E xs (fun p hp=>((HOKE i 0).out p (by rw[<-HX.out.1];exact hp)).1) wr HX.out.2 om);have HEB:=lh (show ∀b,E.map (·.block)=some b->w.heap.size<=b from fun b hb=>OwnS.row HX.out.2 b hb);clear HX hie
   go_wp2_with fail
   refine HSO.out.mono ?_;rintro e w2 ⟨rfl,m,hpm,hpw,hml,hm,hk2⟩;have x2:Ext w w2:=x1.kp hk2 (fun b hb=>HEB.out b hb);have HML:=lh hml;have HR:=lh (show(evs top (ls.map (·.l))).Perm m/\m.Pairwise (fun s t=>s.1<=t.1)/\OwnE w2 w.heap.size E cE m from⟨by rw[<-HXE.out];exact hpm,hpw,hm⟩);clear hpm hpw hml hm hk2 HSO x1
   go_wp2_with fail
   go_ret
   exact⟨E,cE,m,by rw[HML.out];rfl,HR.out.1,HR.out.2.1,HR.out.2.2,x2⟩
def WRep (ws:List Int)(f:Nat->Bool):Prop:=ws.length=16/\∀j,j<16->∃n:Nat,ws[j]? = some (n:Int)/\n<2 ^ 64/\∀r,r<64->n.testBit r=f (64*j+r)
theorem WRep.zero:WRep (List.replicate 16 0) (fun _=>false):=
 ⟨List.length_replicate,fun j hj=>⟨0,by rw[List.getElem?_replicate,if_pos hj];rfl,by decide,fun r _=>by simp⟩⟩
theorem WRep.toggle {ws:List Int}{f:Nat->Bool}(h:WRep ws f){q:Nat}(hq:q<1024){n:Nat}(hn:ws[q / 64]? = some (n:Int)) :
 WRep (ws.set (q / 64) ((n ^^^ 2 ^ (q % 64):Nat):Int)) (fun x=>if x=q then !f q else f x):=by
 refine⟨by rw[List.length_set];exact h.1,fun j hj=>?_⟩;by_cases hjq:j=q / 64
 ·subst hjq;obtain⟨n',h1,h2,h3⟩:=h.2 (q / 64) hj;rw[hn] at h1;injection h1 with h1
  have:n=n':=om;subst this;have hr:q % 64<64:=Nat.mod_lt _ de;refine⟨n ^^^ 2 ^ (q % 64),by rw[List.getElem?_set_self (by rw[h.1];exact hj)],Nat.xor_lt_two_pow h2 (Nat.pow_lt_pow_right de hr),fun r hr2=>?_⟩;rw[Nat.testBit_xor,h3 r hr2,Nat.testBit_two_pow];by_cases e:q % 64=r
  ·have e2:64*(q / 64)+r=q:=om;rw[e2];simp[e]
  ·have e2:¬64*(q / 64)+r=q:=om;simp[e,e2]
 ·obtain⟨n',h1,h2,h3⟩:=h.2 j hj;refine⟨n',by rw[List.getElem?_set_ne (fun e=>hjq e.symm)];exact h1,h2,fun r hr=>?_⟩;have:¬64*j+r=q:=om;rw[h3 r hr];simp only[if_neg this]
theorem WRep.inj {ws vs:List Int}{f g:Nat->Bool}(h:WRep ws f)(k:WRep vs g):ws=vs<->∀q,q<1024->f q=g q:=by
 constructor
 ·rintro rfl q hq;obtain⟨n,h1,_,h3⟩:=h.2 (q / 64) om;obtain⟨m,k1,_,k3⟩:=k.2 (q / 64) om;rw[h1] at k1;injection k1 with k1
  have:n=m:=om;subst this;have e:64*(q / 64)+q % 64=q:=om;have:=(h3 (q % 64) (Nat.mod_lt _ de)).symm.trans (k3 (q % 64) (Nat.mod_lt _ de))
  rwa [e] at this
 ·intro hfg;refine List.ext_getElem? (fun j=>?_);rcases Nat.lt_or_ge j 16 with hj|hj
  ·obtain⟨n,h1,h2,h3⟩:=h.2 j hj;obtain⟨m,k1,k2,k3⟩:=k.2 j hj;have:n=m:=Nat.eq_of_testBit_eq (fun r=>by
    rcases Nat.lt_or_ge r 64 with hr|hr
    ·rw[h3 r hr,k3 r hr,hfg _ om]
    ·rw[Nat.testBit_lt_two_pow (Nat.lt_of_lt_of_le h2 (Nat.pow_le_pow_right de hr)),Nat.testBit_lt_two_pow (Nat.lt_of_lt_of_le k2 (Nat.pow_le_pow_right de hr))])
   rw[h1,k1,this]
  ·rw[List.getElem?_eq_none (by rw[h.1];exact hj),List.getElem?_eq_none (by rw[k.1];exact hj)]
theorem WRep.congr {ws:List Int}{f g:Nat->Bool}(h:WRep ws f)(hfg:∀q,f q=g q):WRep ws g:=by
 have:f=g:=funext hfg
 rw[<-this];exact h
def par (es:List Sp)(q:Nat):Bool:=decide ((es.countP (fun p=>p.2 == (q:Int))) % 2=1)
theorem par_nil (q:Nat):par [] q=false:=rfl
theorem par_snoc (es:List Sp)(p:Sp)(q:Nat):par (es++[p]) q=if p.2=q then !par es q else par es q:=by
 unfold par;rw[List.countP_append];by_cases h:p.2=q
 ·rw[if_pos h];simp only[List.countP_cons,List.countP_nil,h,beq_self_eq_true,if_true];generalize List.countP (fun p=>p.2 == (q:Int)) es=n;rw[Bool.eq_iff_iff]
  simp
  omega
 ·rw[if_neg h];simp[List.countP_cons,h]
theorem par_perm {es fs:List Sp}(h:es.Perm fs)(q:Nat):par es q=par fs q:=by
 unfold par;rw[h.countP_eq]
theorem G22z1 {P:Prop} (h:P:=by
 by_cases h3:s.2+1<=top
 ·rw[if_pos h3];simp[h1,h2]
 ·rw[if_neg h3];simp[h1,h2]):P:=h
theorem cnt_span (top e:Int)(q:Nat)(he:e<=top)(s:Sp)(hs:s.1<=s.2):((evS q top s).filter (fun p=>decide (p.1<=e))).countP (fun p=>p.2 == (q:Int))=(if s.1<=e then 1 else 0)+(if s.2+1<=e then 1 else 0):=by
 unfold evS;by_cases h1:s.1<=e
 ·by_cases h2:s.2+1<=e
  ·rw[if_pos om,if_pos om];simp[h1,h2]
  ·rw[if_pos om];exact G22z1
 ·have h2:¬s.2+1<=e:=om;by_cases h4:s.1<=top
  ·rw[if_pos h4];exact G22z1
  ·rw[if_neg h4];exact G22z1
theorem cnt_set (top e:Int)(q:Nat)(he:e<=top):∀(l:List Sp),Canon l->(((evL top q l).filter (fun p=>decide (p.1<=e))).countP (fun p=>p.2 == (q:Int))) % 2=if has l e=true then 1 else 0
 | [],_=>by simp[evL,has_nil]
 | s::l,hc=>by
  have ih:=cnt_set top e q he l hc.tail;have hs:=hc.1 s si;have hfar:has l e=true->s.2+2<=e:=fun h=>hc.far h;unfold evL at ih ⊢;rw[List.flatMap_cons,List.filter_append,List.countP_append,cnt_span top e q he s hs,has_cons];by_cases hl:has l e=true
  ·have:=hfar hl;rw[if_pos hl] at ih;rw[hl,Bool.or_true,if_pos rfl,if_pos om,if_pos om];omega
  ·rw[if_neg hl] at ih;have hlf:has l e=false:=by simpa using hl
   rw[hlf,Bool.or_false];by_cases h1:s.1<=e
   ·by_cases h2:e<=s.2
    ·rw[if_pos h1,if_neg om,if_pos (by simp[h1,h2])];omega
    ·rw[if_pos h1,if_pos om,if_neg (by simp[h2])];omega
   ·rw[if_neg h1,if_neg om,if_neg (by simp[h1])];omega
theorem cnt_other (top e:Int)(q i:Nat)(hqi:i≠q)(l:List Sp):((evL top i l).filter (fun p=>decide (p.1<=e))).countP (fun p=>p.2 == (q:Int))=0:=by
 rw[List.countP_eq_zero];intro p hp;obtain⟨hp,_⟩:=List.mem_filter.1 hp;unfold evL at hp;obtain⟨s,_,hp⟩:=List.mem_flatMap.1 hp;unfold evS at hp;have:p.2=(i:Int):=by
  rcases List.mem_append.1 hp with hp|hp
  ·split at hp
   ·obtain rfl:=List.mem_singleton.1 hp;rfl
   ·simp at hp
  ·split at hp
   ·obtain rfl:=List.mem_singleton.1 hp;rfl
   ·simp at hp
 rw[this]
 simp;omega
theorem par_has (top e:Int)(he:e<=top)(ls:List (List Sp))(hc:∀a∈ls,Canon a)(q:Nat):par ((evs top ls).filter (fun p=>decide (p.1<=e))) q=(if q<ls.length then has (ls.getD q []) e else false):=by
 have key:∀n,n<=ls.length->((((List.range n).flatMap (fun i=>evL top i (ls.getD i []))).filter (fun p=>decide (p.1<=e))).countP (fun p=>p.2 == (q:Int))) % 2=if q<n/\has (ls.getD q []) e=true then 1 else 0:=by
  intro n;induction n with
  | zero=>intro _;simp
  | succ n ih=>
   intro hn;rw[List.range_succ,List.flatMap_append,List.filter_append,List.countP_append];have h1:=ih om;simp only[List.flatMap_cons,List.flatMap_nil,List.append_nil];by_cases hq:n=q
   ·subst hq;have h2:=cnt_set top e n he (ls.getD n []) (by
     have:ls.getD n []=ls[n]:=by simp[List.getD_eq_getElem?_getD,show n<ls.length by omega]
     rw[this];exact hc _ (List.getElem_mem _))
    rw[if_neg om] at h1;by_cases hh:has (ls.getD n []) e=true
    ·rw[if_pos hh] at h2;rw[if_pos ⟨om,hh⟩];omega
    ·rw[if_neg hh] at h2;rw[if_neg (fun h=>hh h.2)];omega
   ·rw[cnt_other top e q n hq,Nat.add_zero,h1];have:(q<n+1)<->(q<n):=om;simp only[this]
 have h:=key ls.length (Nat.le_refl _);unfold par evs;by_cases hq:q<ls.length
 ·rw[if_pos hq]
  cases hh:has (ls.getD q []) e
  ·rw[if_neg (fun x=>by rw[hh] at x;cases x.2)] at h;rw[h];rfl
  ·rw[if_pos ⟨hq,hh⟩] at h;rw[h];rfl
 ·rw[if_neg hq];rw[if_neg (fun x=>hq x.1)] at h;rw[h];rfl
theorem evs_mem {top:Int}{ls:List (List Sp)}{p:Sp}:p∈evs top ls<->∃q,∃h:q<ls.length,∃s∈ls[q],p.2=(q:Int)/\p.1<=top/\(p.1=s.1\/p.1=s.2+1):=by
 unfold evs evL evS;simp only[List.mem_flatMap,List.mem_range,List.mem_append];constructor
 ·rintro⟨q,hq,s,hs,hp⟩;have e:ls.getD q []=ls[q]:=by simp[List.getD_eq_getElem?_getD,hq]
  rw[e] at hs;refine⟨q,hq,s,hs,?_⟩;rcases hp with hp|hp
  ·split at hp
   ·obtain rfl:=List.mem_singleton.1 hp;exact⟨rfl,by assumption,.inl rfl⟩
   ·simp at hp
  ·split at hp
   ·obtain rfl:=List.mem_singleton.1 hp;exact⟨rfl,by assumption,.inr rfl⟩
   ·simp at hp
 ·rintro⟨q,hq,s,hs,h2,h1,h3⟩;have e:ls.getD q []=ls[q]:=by simp[List.getD_eq_getElem?_getD,hq]
  refine⟨q,hq,s,by rw[e];exact hs,?_⟩;obtain⟨a,b⟩:=p
  simp only at h1 h2 h3
  rcases h3 with h3|h3
  ·left;rw[if_pos om];simp[h2,h3]
  ·right;rw[if_pos om];simp[h2,h3]
structure EvOk (E:List Int)(m:List Sp)(top:Int):Prop where
 ends:Ends E top
 head:E.head? = some 0
 mem:∀p∈m,p.1∈E
 all:∀x∈E,x=0\/∃p∈m,p.1=x
 srt:m.Pairwise (fun s t=>s.1<=t.1)
theorem EvOk.of {top:Int}(ht:0<=top){ls:List (List Sp)}(hg:∀a∈ls,∀s∈a,goodS s){m:List Sp}(hp:(evs top ls).Perm m)(hs:m.Pairwise (fun s t=>s.1<=t.1)):EvOk (endsT top ls) m top:=by
 have hg2:∀s∈ls.flatten,0<=s.1/\s.1<=s.2:=fun s hs=>by
  obtain⟨a,ha,hs⟩:=List.mem_flatten.1 hs;have:=hg a ha s hs;unfold goodS at this;omega
 have h:=endsT_ok ht hg2;refine⟨h.ends,h.head,fun p hpm=>?_,fun x hx=>?_,hs⟩
 ·obtain⟨q,hq,s,hs,_,h1,h2⟩:=evs_mem.1 (hp.mem_iff.2 hpm);have hin:=h.inn s (List.mem_flatten.2 ⟨_,List.getElem_mem hq,hs⟩);rcases h2 with h2|h2
  ·rw[h2] at h1 ⊢;exact hin.1 h1
  ·rw[h2] at h1 ⊢;exact hin.2 h1
 ·rcases h.only x hx with h1|⟨s,hs,h1⟩
  ·exact .inl h1
  ·obtain⟨a,ha,hsa⟩:=List.mem_flatten.1 hs;obtain⟨q,hq,rfl⟩:=List.getElem_of_mem ha;exact .inr ⟨(x,(q:Int)),hp.mem_iff.1 (evs_mem.2 ⟨q,hq,s,hsa,rfl,h.ends.le x hx,h1⟩),rfl⟩
def Cut (m pre rem:List Sp)(x:Int):Prop:=m=pre++rem/\(∀p∈pre,p.1<=x)/\∀p∈rem,x<p.1
theorem EvOk.next {E:List Int}{m pre rem:List Sp}{top:Int}(h:EvOk E m top){i:Nat}(hi:i<E.length)(hc:Cut m pre rem E[i]) :
 (if h:i+1<E.length then E[i+1]-1 else top)=(match rem with|[]=>top|p::_=>p.1-1):=by
 obtain⟨hm,hpre,hrem⟩:=hc;have hinc:=List.pairwise_iff_getElem.1 h.ends.inc;by_cases hn:i+1<E.length
 ·rw[dif_pos hn];have hgt:=hinc i (i+1) hi hn om;have h0:0<=E[i]:=by
   have he:E[0]'om=0:=by
    have:=h.head;rw[List.head?_eq_getElem?,List.getElem?_eq_getElem om] at this;injection this
   rcases Nat.eq_zero_or_pos i with rfl|hp
   ·omega
   ·have:=hinc 0 i om hi hp;omega
  rcases h.all E[i+1] (List.getElem_mem hn) with h1|⟨p,hp,h1⟩
  ·omega
  ·have hpr:p∈rem:=by
    rw[hm] at hp;rcases List.mem_append.1 hp with h2|h2
    ·have:=hpre p h2;omega
    ·exact h2
   cases rem with
   | nil=>simp at hpr
   | cons r rem=>
    simp only
    have hr:=hrem r si;have hrE:=h.mem r (by rw[hm];simp);obtain⟨j,hj,hje⟩:=List.getElem_of_mem hrE;have hle:r.1<=p.1:=by
     have hs:=h.srt;rw[hm] at hs;have h2:=(List.pairwise_append.1 hs).2.1;rcases List.mem_cons.1 hpr with rfl|h3
     ·exact Int.le_refl _
     ·exact(List.pairwise_cons.1 h2).1 p h3
    have hij:i<j:=by
     rcases Nat.lt_or_ge i j with h2|h2
     ·exact h2
     ·rcases Nat.lt_or_ge j i with h3|h3
      ·have:=hinc j i hj hi h3;omega
      ·have:i=j:=om;subst this;omega
    have:E[i+1]<=r.1:=by
     rcases Nat.lt_or_ge (i+1) j with h2|h2
     ·have:=hinc (i+1) j hn hj h2;omega
     ·have:j=i+1:=om;subst this;omega
    omega
 ·rw[dif_neg hn]
  cases rem with
  | nil=>rfl
  | cons r rem=>
   exfalso
   have hr:=hrem r si;obtain⟨j,hj,hje⟩:=List.getElem_of_mem (h.mem r (by rw[hm];simp));rcases Nat.lt_or_ge j i with h3|h3
   ·have:=hinc j i hj hi h3;omega
   ·have:j=i:=om;subst this;omega
theorem Cut.filter {m pre rem:List Sp}{x:Int}(h:Cut m pre rem x):m.filter (fun p=>decide (p.1<=x))=pre:=by
 obtain⟨hm,h1,h2⟩:=h;rw[hm,List.filter_append,List.filter_eq_self.2 (fun p hp=>by simpa using h1 p hp),List.filter_eq_nil_iff.2 (fun p hp=>by have:=h2 p hp;simp;omega),List.append_nil]
def vec (ls:List (List Sp))(x:Int):List Bool:=ls.map (fun a=>has a x)
def keysU (ls:List (List Sp))(E:List Int):Nat->List (List Bool)
 | 0=>[]
 | i+1=>if vec ls (E.getD i 0)∈keysU ls E i then keysU ls E i else keysU ls E i++[vec ls (E.getD i 0)]
def classes (ls:List (List Sp))(top:Int):List (List Sp):=(keysU ls (endsT top ls) (endsT top ls).length).map (fun v=>cls (endsT top ls) top (fun x=>decide (vec ls x=v)))
theorem keysU_nodup (ls:List (List Sp))(E:List Int):∀i,(keysU ls E i).Nodup
 | 0=>List.nodup_nil
 | i+1=>by
  unfold keysU
  split
  ·exact keysU_nodup ls E i
  ·rename_i h
   refine List.nodup_append.2 ⟨keysU_nodup ls E i,by simp,fun a ha b hb=>?_⟩;obtain rfl:=List.mem_singleton.1 hb;rintro rfl;exact h ha
theorem keysU_len (ls:List (List Sp))(E:List Int):∀i,(keysU ls E i).length<=i
 | 0=>Nat.le_refl _
 | i+1=>by
  have:=keysU_len ls E i;unfold keysU
  split
  ·omega
  ·simp;omega
def clsU (ls:List (List Sp))(E:List Int)(top:Int)(v:List Bool)(i:Nat):List Sp:=(((segsT E top).take i).filter (fun s=>decide (vec ls s.1=v))).foldl addS []
theorem clsU_all (ls:List (List Sp))(E:List Int)(top:Int)(v:List Bool):clsU ls E top v E.length=cls E top (fun x=>decide (vec ls x=v)):=by
 unfold clsU;rw[List.take_of_length_le (by rw[segsT_len];exact Nat.le_refl _)]
 rfl
theorem clsU_succ {ls:List (List Sp)}{E:List Int}{top:Int}{v:List Bool}{i:Nat}(hi:i<E.length) :
 clsU ls E top v (i+1)=if vec ls E[i]=v then addS (clsU ls E top v i) (E[i],if h:i+1<E.length then E[i+1]-1 else top) else clsU ls E top v i:=by
 unfold clsU;rw[List.take_succ_eq_append_getElem (by rw[segsT_len];exact hi),segsT_get hi,List.filter_append,List.foldl_append];by_cases h:vec ls E[i]=v<;>simp[h]
theorem clsU_new {ls:List (List Sp)}{E:List Int}{top:Int}{v:List Bool}:∀{i:Nat},i<=E.length->v∉keysU ls E i->clsU ls E top v i=[]
 | 0,_,_=>rfl
 | i+1,hi,h=>by
  have hi':i<E.length:=om;have hd:E.getD i 0=E[i]:=by simp[List.getD_eq_getElem?_getD,hi']
  unfold keysU at h;rw[hd] at h;have h2:v∉keysU ls E i:=fun hm=>by
   split at h
   ·exact h hm
   ·exact h (List.mem_append_left _ hm)
  have h3:vec ls E[i]≠v:=fun e=>by
   rw[e] at h
   split at h
   ·exact h (by assumption)
   ·exact h si
  rw[clsU_succ hi',if_neg h3];exact clsU_new om h2
abbrev K16:={ l:List Int // l.length=16 }
def k16V (x:K16):Value:=.agg (x.1.map (Value.int .u64)).toArray
theorem infoU64:(Tryz.prog.info? 241).map (fun i=>(i.zero,i.size,i.bytes))=some (some (.int .u64 0),1,8):=by kernel_rfl
theorem part16 (xs:List Int)(i:Nat)(h:i<xs.length)(w:World):(part 241 (xs.map (Value.int .u64)).toArray (i*1)).run Tryz.prog w=.ok (.int .u64 xs[i]) w:=by
 unfold part;go_simp
theorem eqU64 (a b:Int)(n:Nat)(w:World):(Op.equalIn (n+1) 241 (.int .u64 a) (.int .u64 b)).run Tryz.prog w=.ok (a == b) w:=by
 have u3:=Tryz.underlying241;unfold Op.equalIn;go_simp
theorem eqItems16 (n:Nat)(xs ys:List Int)(w:World):∀(is:List Nat),(∀i∈is,i<xs.length/\i<ys.length)->
 (Op.eqItems (n+1) 241 1 (xs.map (Value.int .u64)).toArray (ys.map (Value.int .u64)).toArray is).run Tryz.prog w=.ok (is.all (fun i=>xs.getD i 0 == ys.getD i 0)) w
 | [],_=>by simp[Op.eqItems]
 | i::is,h=>by
  obtain⟨h1,h2⟩:=h i si;have ih:=eqItems16 n xs ys w is (fun j hj=>h j (by simp[hj]));unfold Op.eqItems;simp only[Sem.run_bind,part16 xs i h1,part16 ys i h2,eqU64,Result.andThen_ok];have e1:xs.getD i 0=xs[i]:=by simp[List.getD_eq_getElem?_getD,h1]
  have e2:ys.getD i 0=ys[i]:=by simp[List.getD_eq_getElem?_getD,h2]
  rw[List.all_cons,e1,e2];by_cases hc:xs[i]=ys[i]
  ·simp only[hc,beq_self_eq_true,Bool.not_true,Bool.false_eq_true,if_false,Bool.true_and];exact ih
  ·have:(xs[i] == ys[i])=false:=by simpa using hc
   simp[this]
theorem eqK16 (x y:K16)(w:World):(Op.equal 242 (k16V x) (k16V y)).run Tryz.prog w=.ok (decide (x=y)) w:=by
 obtain⟨i0,hi0,_⟩:=info_parts infoU64;have hu:Tryz.prog.underlying 242=some (.array 16 241):=by kernel_rfl
 have hc:Tryz.prog.cellsOf 241=1:=by kernel_rfl
 unfold Op.equal k16V;rw[show Op.maxDepth=9999+1 from rfl,run_equalIn_array w 9999 _ _ hu hi0,hc,show(9999:Nat)=9998+1 from rfl,eqItems16 9998 x.1 y.1 w (List.range 16) (fun i hi=>by
  have:=List.mem_range.1 hi;have h1:=x.2;have h2:=y.2;omega)]
 congr 1
 rw[Bool.eq_iff_iff,List.all_eq_true,decide_eq_true_iff];constructor
 ·intro h;refine Subtype.ext (List.ext_getElem (by rw[x.2,y.2]) (fun i h1 h2=>?_));have:=h i (List.mem_range.2 (by have:=x.2;omega));simp only[beq_iff_eq] at this
  rwa [List.getD_eq_getElem?_getD,List.getD_eq_getElem?_getD,List.getElem?_eq_getElem h1,List.getElem?_eq_getElem h2] at this
 ·rintro rfl i _
  simp
theorem check16 (e:Bool)(xs:List Int)(w:World):∀(is:List Nat),(∀i∈is,i<xs.length)->
 (forIn is PUnit.unit (fun i _=>do
  let k <-sizeOf 241
  let r <-part 241 (xs.map (Value.int .u64)).toArray (i*k)
  Instr.checkKey e 9999 241 r
  pure (ForInStep.yield PUnit.unit):Nat->PUnit->Sem (ForInStep PUnit))).run Tryz.prog w=.ok PUnit.unit w
 | [],_=>by simp
 | i::is,h=>by
  have u3:=Tryz.underlying241;have h1:=h i si;have ih:=check16 e xs w is (fun j hj=>h j (by simp[hj]));obtain⟨i0,hi0,hz0,hz1,hz2⟩:=info_parts infoU64;have hsz:(sizeOf 241).run Tryz.prog w=.ok 1 w:=by
   simp[sizeOf,run_typeInfo w hi0,hz1]
  have hk:(Instr.checkKey e 9999 241 (.int .u64 xs[i])).run Tryz.prog w=.ok () w:=by
   rw[show(9999:Nat)=9998+1 from rfl];unfold Instr.checkKey;simp[Sem.run_bind,run_underlying u3]
  simp only[List.forIn_cons,Sem.run_bind,hsz,Result.andThen_ok,part16 xs i h1,hk,Sem.run_pure];exact ih
theorem sameBits_ints (n:Nat)(xs:List Int):Instr.sameBits (n+1) (.agg (xs.map (Value.int .u64)).toArray) (.agg (xs.map (Value.int .u64)).toArray)=true:=by
 simp only[Instr.sameBits,beq_self_eq_true,Bool.true_and];rw[List.all_eq_true];intro p hp;obtain⟨a,b⟩:=p;have:a=b/\a∈xs.map (Value.int .u64):=by
  have h1:∀(l:List Value) (a b:Value),(a,b)∈l.zip l->a=b/\a∈l:=by
   intro l;induction l with
   | nil=>intro a b h;simp at h
   | cons x l ih=>
    intro a b h;rw[List.zip_cons_cons] at h;rcases List.mem_cons.1 h with h|h
    ·injection h with h1 h2
     subst h1;subst h2;simp
    ·have:=ih a b h;exact⟨this.1,by simp[this.2]⟩
  exact h1 _ a b hp
 obtain⟨rfl,hm⟩:=this;obtain⟨z,_,rfl⟩:=List.mem_map.1 hm
 cases n<;>simp[Instr.sameBits]
theorem klaw16:KLaw Tryz.prog 242 k16V:=by
 refine asking_klaw (d:=.array 16 241) kr (fun x y=>by simp[k16V,Instr.sameNow]) eqK16 (fun e x w=>?_) (fun x=>sameBits_ints 9999 x.1);obtain⟨i0,hi0,_⟩:=info_parts infoU64;have hu:Tryz.prog.underlying 242=some (.array 16 241):=by kernel_rfl
 have hc:Tryz.prog.cellsOf 241=1:=by kernel_rfl
 have h:=check16 e x.1 w (List.range' 0 16) (fun i hi=>by
  have:=List.mem_range'.1 hi;have:=x.2;omega)
 unfold k16V;rw[show(10000:Nat)=9999+1 from rfl];unfold Instr.checkKey;simp only[Sem.run_bind,run_underlying hu,Result.andThen_ok,Std.Legacy.Range.forIn_eq_forIn_range',Std.Legacy.Range.size,Nat.sub_zero,Nat.add_one_sub_one,Nat.div_one];rw[h]
 simp
noncomputable def vErr:List (List Sp)->Int
 | []=>0
 | a::r=>if validE a=0 then vErr r else validE a
theorem vErr_bad:∀{ls:List (List Sp)} {i:Nat} (hi:i<ls.length),(∀j (hj:j<ls.length),j<i->validE ls[j]=0)->validE ls[i]≠0->vErr ls=validE ls[i]
 | a::r,0,_,_,h=>by
  have h':validE a≠0:=h;unfold vErr;rw[if_neg h'];rfl
 | a::r,i+1,hi,h0,h=>by
  have ha:=h0 0 si om;simp only[List.getElem_cons_zero] at ha;unfold vErr;rw[if_pos ha];exact vErr_bad (by simpa using hi) (fun j hj hji=>h0 (j+1) (by simpa using hj) om) h
theorem vErr_ok:∀{ls:List (List Sp)},(∀j (hj:j<ls.length),validE ls[j]=0)->vErr ls=0
 | [],_=>rfl
 | a::r,h=>by
  have ha:=h 0 si;simp only[List.getElem_cons_zero] at ha;unfold vErr;rw[if_pos ha];exact vErr_ok (fun j hj=>h (j+1) (by simpa using hj))
theorem validE_zero {a:List Sp}(h:validE a=0):OkL a/\a.length<=64:=by
 unfold validE at h;by_cases hk:OkL a
 ·rw[if_pos hk] at h;refine⟨hk,?_⟩;by_cases h64:64<a.length
  ·rw[if_pos h64] at h;omega
  ·omega
 ·rw[if_neg hk] at h;omega
theorem vErr_zero:∀{ls:List (List Sp)},vErr ls=0->∀a∈ls,validE a=0
 | [],_,a,ha=>by simp at ha
 | b::r,h,a,ha=>by
  unfold vErr at h;by_cases hb:validE b=0
  ·rw[if_pos hb] at h;rcases List.mem_cons.1 ha with rfl|ha
   ·exact hb
   ·exact vErr_zero h a ha
  ·rw[if_neg hb] at h;exact absurd h hb
noncomputable def splitE (ls:List (List Sp)) (top:Int):Int:=
 if vErr ls≠0 then vErr ls else if top<0\/1114111<top then 5 else if(classes ls top).any (fun a=>decide (64<a.length))=true then 4 else 0
def RetSplit (ls:List (List Sp))(top:Int)(w:World)(e:Ending)(w':World):Prop:=
 ∃(O:Option Addr) (cO:Nat) (hs:List Hs),e=.returned (.tuple #[.slice O hs.length cO,.int .i64 (splitE ls top)])/\LLS w' O cO hs/\hs.map (·.l)=(if splitE ls top=0 then classes ls top else[])/\Ext w w'
theorem LLS.nil (w:World):LLS w none 0 []:=⟨Nat.le_refl _,Nat.zero_le _,by simp,fun h=>absurd rfl h⟩
theorem SL.drop1 {w:World}{b o c:Nat}{p:Sp}{l:List Sp}(h:SL w (some ⟨b,o,none⟩) c (p::l)):SL w (some ⟨b,o+2,none⟩) (c-1) l:=by
 refine⟨by have:=h.le;simp at this;omega,by have:=h.cap;omega,fun s hs=>h.rng s (by simp[hs]),fun _=>?_⟩;obtain⟨b',o',he,hc⟩:=h.at_ si;injection he with he;injection he with e1 e2 _
 subst e1;subst e2;refine⟨b,o+2,rfl,fun i hi=>?_⟩;have:=hc (i+1) (by simpa using hi);have e:o+(i+1)*2=o+2+i*2:=om;rw[e] at this
 simpa using this
def flatH (hs:List Hs):List Value:=hs.map fun h=>.slice h.A h.l.length h.c
theorem infoSl:(Tryz.prog.info? 25).map (fun i=>(i.zero,i.size,i.bytes))=some (some (.slice none 0 0),1,24):=by kernel_rfl
structure SO (w:World)(base:Nat)(O:Option Addr)(cO:Nat)(hs:List Hs):Prop where
 own:OwnS w base 25 1 O hs.length cO (flatH hs)
 each:∀h∈hs,OwnP w base h.A h.c h.l
 apart:∀i j (hi:i<hs.length) (hj:j<hs.length),i≠j->∀b,hs[i].A.map (·.block)=some b->hs[j].A.map (·.block)≠some b
namespace SO
variable {w w':World} {base cO:Nat} {O:Option Addr} {hs:List Hs}
theorem nil (w:World)(base:Nat):SO w base none 0 []:=⟨OwnS.nil _ _ _ _,by simp,fun i j hi=>by simp at hi⟩
theorem ext (h:SO w base O cO hs)(x:Ext w w'):SO w' base O cO hs:=⟨OwnS.ext h.own x,fun z hz=>(h.each z hz).ext x,h.apart⟩
theorem kp (h:SO w base O cO hs){g T:Nat}{cs:Array Value}(hb:Blk w g T cs)(hT:T≠25)(hT2:T≠24)(k:KpP (·=g) w w'):SO w' base O cO hs:=
 ⟨OwnS.kp h.own k (fun b hA e=>own_blk h.own hb (fun e2=>hT e2.symm) (by rw[hA,e])),fun z hz=>(h.each z hz).kp k (fun b hA e=>own_blk (h.each z hz) hb (fun e2=>hT2 e2.symm) (by rw[hA,e])),h.apart⟩
theorem sl (h:SO w base O cO hs)(hg:∀z∈hs,∀s∈z.l,goodS s):LLS w O cO hs:=by
 have hc:=OwnS.caps h.own;refine⟨hc.1,by unfold maxLen;omega,fun z hz=>(h.each z hz).sl (hg z hz),fun hn=>?_⟩;obtain⟨b,o,hA,hcell⟩:=OwnS.cells h.own (by intro e;exact hn (List.map_eq_nil_iff.1 e));refine⟨b,o,hA,fun i hi=>?_⟩;have:=hcell i (by simpa[flatH] using hi)
 simpa[flatH] using this
theorem add (h:SO w base O cO hs){O':Option Addr}{cO':Nat}(hg:w.grownBy w' (O.map (·.block)))(ho:OwnS w' base 25 1 O' (hs.length+1) cO' (flatH hs++[.slice none 0 0])):SO w' base O' cO' (hs++[⟨none,0,[]⟩]):=by
 have hk:=KpP.of_grown hg;refine⟨by rw[List.length_append];unfold flatH at ho ⊢;rw[List.map_append];exact ho,fun z hz=>?_,fun i j hi hj hij b hb hb2=>?_⟩
 ·rcases List.mem_append.1 hz with hz|hz
  ·exact(h.each z hz).kp hk (fun b hA e=>own_ne (h.each z hz) h.own de hA e)
  ·obtain rfl:=List.mem_singleton.1 hz;exact OwnP.nil _ _
 ·rw[List.length_append,List.length_singleton] at hi hj;have hi':i<hs.length:=by
   rcases Nat.lt_or_ge i hs.length with hh|hh
   ·exact hh
   ·have:i=hs.length:=om;subst this;simp at hb
  have hj':j<hs.length:=by
   rcases Nat.lt_or_ge j hs.length with hh|hh
   ·exact hh
   ·have:j=hs.length:=om;subst this;simp at hb2
  rw[List.getElem_append_left hi'] at hb;rw[List.getElem_append_left hj'] at hb2;exact h.apart i j hi' hj' hij b hb hb2
theorem put (h:SO w base O cO hs){n:Nat}(hn:n<hs.length){A':Option Addr}{c':Nat}{l':List Sp}(k:KpP (fun b=>hs[n].A.map (·.block)=some b) w w')(ho:OwnP w' base A' c' l')
 (hat:A'.map (·.block)=hs[n].A.map (·.block)\/∃b,A'.map (·.block)=some b/\w.heap.size<=b) :
 ∃g,O=some ⟨g,0,none⟩/\base<=g/\w'.cell? ⟨g,n,none⟩=some (.slice hs[n].A hs[n].l.length hs[n].c)/\w'.frozen? ⟨g,n,none⟩=false/\SO (w'.setCell ⟨g,n,none⟩ (.slice A' l'.length c')) base O cO (hs.set n ⟨A',c',l'⟩):=by
 have hmem:=List.getElem_mem hn;have hO':=OwnS.kp h.own k (fun b hA e=>own_ne (h.each _ hmem) h.own de e hA);have hfl:n<(flatH hs).length:=by simpa[flatH] using hn
 obtain⟨g,hOe,hgb,c1,z1,glt,st⟩:=OwnS.store hO' hfl;have hset:(flatH hs).set n (.slice A' l'.length c')=flatH (hs.set n ⟨A',c',l'⟩):=by
  unfold flatH;rw[List.map_set]
 have hst:=st (.slice A' l'.length c');rw[hset] at hst;have hgO:∀{A:Option Addr} {c:Nat} {l:List Sp},OwnP w' base A c l->A.map (·.block)≠some g:=fun{A c l} hp=>by
  intro e;exact own_ne hp hO' de e (by rw[hOe];rfl)
 refine⟨g,hOe,hgb,by rw[c1];simp[flatH],z1,⟨by rw[List.length_set];exact hst,fun z hz=>?_,fun i j hi hj hij b hb hb2=>?_⟩⟩
 ·obtain⟨i,hi,rfl⟩:=List.getElem_of_mem hz;rw[List.length_set] at hi;rw[List.getElem_set]
  split
  ·exact OwnS.far ho (hgO ho) _
  ·rename_i hne
   have hei:=h.each _ (List.getElem_mem hi);have:=hei.kp k (fun b hA e=>h.apart i n hi hn (fun x=>hne x.symm) b hA e);exact OwnS.far this (hgO this) _
 ·rw[List.length_set] at hi hj;have hlt:∀q (hq:q<hs.length) b,hs[q].A.map (·.block)=some b->b<w.heap.size:=fun q hq b hb=>OwnP.blt (h.each _ (List.getElem_mem hq)) hb;rw[List.getElem_set] at hb hb2
  split at hb
  ·rename_i e1
   subst e1
   split at hb2
   ·rename_i e2;exact hij e2
   ·rename_i e2
    rcases hat with h1|⟨b',h1,h2⟩
    ·exact h.apart n j hn hj e2 b (h1.symm.trans hb) hb2
    ·have:b'=b:=by simpa using h1.symm.trans hb
     subst this;have:=hlt j hj b' hb2;omega
  ·rename_i e1
   split at hb2
   ·rename_i e2
    subst e2;rcases hat with h1|⟨b',h1,h2⟩
    ·exact h.apart i n hi hn (fun x=>e1 x.symm) b hb (h1.symm.trans hb2)
    ·have:b'=b:=by simpa using h1.symm.trans hb2
     subst this;have:=hlt i hi b' hb;omega
   ·exact h.apart i j hi hj hij b hb hb2
end SO
theorem list16 {α:Type}:∀{l:List α},l.length=16->∃a0 a1 a2 a3 a4 a5 a6 a7 a8 a9 a10 a11 a12 a13 a14 a15,l=[a0,a1,a2,a3,a4,a5,a6,a7,a8,a9,a10,a11,a12,a13,a14,a15]:=by
 intro l h
 iterate 16(rcases l with _|⟨_,l⟩;· simp at h)
 simp only[List.length_cons] at h;obtain rfl:=List.length_eq_zero_iff.1 (by omega:l.length=0);exact⟨_,_,_,_,_,_,_,_,_,_,_,_,_,_,_,_,rfl⟩
theorem vec_len (ls:List (List Sp))(x:Int):(vec ls x).length=ls.length:=by unfold vec;simp
theorem keysU_all (ls:List (List Sp))(E:List Int):∀i,∀v∈keysU ls E i,v.length=ls.length
 | 0,v,h=>by simp[keysU] at h
 | i+1,v,h=>by
  unfold keysU at h
  split at h
  ·exact keysU_all ls E i v h
  ·rcases List.mem_append.1 h with h|h
   ·exact keysU_all ls E i v h
   ·obtain rfl:=List.mem_singleton.1 h;exact vec_len _ _
theorem vec_bits {ls:List (List Sp)}{x:Int}{q:Nat}:(vec ls x).getD q false=(if q<ls.length then has (ls.getD q []) x else false):=by
 unfold vec;by_cases h:q<ls.length
 ·simp[List.getD_eq_getElem?_getD,h]
 ·simp[List.getD_eq_getElem?_getD,h]
theorem at_none' {α β:Type}[DecidableEq α]{l:List (α×β)}{x:α}(h:∀p∈l,p.1≠x):at? l x=none:=by
 unfold at?;rw[List.find?_eq_none.2 (fun p hp hc=>h p hp (beq_iff_eq.1 hc))]
 rfl
theorem at_some' {α β:Type}[DecidableEq α]{l:List (α×β)}{x:α}{y:β}{p:α×β}(hp:p∈l)(hx:p.1=x)(h:∀q∈l,q.1=x->q.2=y):at? l x=some y:=by
 unfold at?
 cases hf:l.find? (fun p=>p.1 == x) with
 | none=>exact absurd (beq_iff_eq.2 hx) (List.find?_eq_none.1 hf p hp)
 | some q=>rw[Option.map_some,h q (List.mem_of_find?_eq_some hf) (beq_iff_eq.1 (show(q.1 == x)=true from by have:=List.find?_some (p:=fun(p:α×β)=>p.1 == x) hf;exact this))]
theorem keys_at {ents:List (K16×Int)}{K:List (List Bool)}{v:List Bool}{ws:List Int}{L:Nat}(hw:ws.length=16)(hr:WRep ws (fun q=>v.getD q false))(hL:L<=1024)(hv:v.length=L)(hK:∀k∈K,k.length=L)
 (hl:ents.length=K.length) (he:∀n (h:n<ents.length),ents[n].2=(n:Int)/\WRep ents[n].1.1 (fun q=>(K.getD n []).getD q false)) :
 (v∉K->at? ents ⟨ws,hw⟩=none)/\(∀n (hn:n<K.length),K.Nodup->K[n]=v->at? ents ⟨ws,hw⟩=some (n:Int)):=by
 have key:∀n (h:n<ents.length),ents[n].1=⟨ws,hw⟩<->K[n]'om=v:=by
  intro n h;have h1:=(he n h).2.inj hr;have hkn:K.getD n []=K[n]'om:=by simp[List.getD_eq_getElem?_getD,show n<K.length by omega]
  rw[hkn] at h1;rw[Subtype.ext_iff];refine h1.trans ⟨fun hq=>?_,fun e=>by rw[e];intros;rfl⟩;have hln:=hK _ (List.getElem_mem (show n<K.length by omega));refine List.ext_getElem om (fun q h2 h3=>?_);have:=hq q om
  simpa[List.getD_eq_getElem?_getD,h2,h3] using this
 constructor
 ·intro hn;refine at_none' (fun p hp hc=>?_);obtain⟨n,h,rfl⟩:=List.getElem_of_mem hp;exact hn (by rw[<-(key n h).1 hc];exact List.getElem_mem _)
 ·intro n hn hd hkn;refine at_some' (List.getElem_mem (show n<ents.length by omega)) ((key n om).2 hkn) (fun p hp hc=>?_);obtain⟨m,hm,rfl⟩:=List.getElem_of_mem hp;have h2:=(key m hm).1 hc;have h3:m=n:=(List.getElem_inj hd (h₀:=om) (h₁:=hn)).1 (h2.trans hkn.symm);subst h3;exact(he m hm).1
theorem clsU_good {ls:List (List Sp)}{E:List Int}{top:Int}{v:List Bool}{i:Nat}(hE:Ends E top)(h0:E.head? = some 0)(ht:top<=1114111):∀s∈clsU ls E top v i,goodS s:=by
 refine addAll_good si (fun u hu=>?_);have hu2:=List.mem_of_mem_take (List.mem_filter.1 hu).1;have h8:=segsT_mem hE u hu2;have h10:0<=u.1:=by
  rcases E with _|⟨a,l⟩
  ·simp at h0
  ·obtain rfl:a=0:=by simpa using h0
   rcases List.mem_cons.1 h8.1 with e|e
   ·omega
   ·have:=(List.pairwise_cons.1 hE.inc).1 _ e;omega
 unfold goodS;omega
theorem seg_good {E:List Int}{top:Int}{i:Nat}(hi:i<E.length)(hE:Ends E top)(h0:E.head? = some 0)(ht:top<=1114111):goodS (E[i],if h:i+1<E.length then E[i+1]-1 else top):=by
 have hm:(E[i],if h:i+1<E.length then E[i+1]-1 else top)∈segsT E top:=by
  rw[<-segsT_get hi];exact List.getElem_mem _
 have h8:=segsT_mem hE _ hm;have h10:0<=E[i]:=by
  rcases E with _|⟨a,l⟩
  ·simp at h0
  ·obtain rfl:a=0:=by simpa using h0
   rcases List.mem_cons.1 h8.1 with e|e
   ·simp only at e;omega
   ·have:=(List.pairwise_cons.1 hE.inc).1 _ e
    simp only at this;omega
 unfold goodS
 simp only at h8 ⊢
 omega
theorem clsU_len {ls:List (List Sp)}{E:List Int}{top:Int}{v:List Bool}{i:Nat}:(clsU ls E top v i).length<=i:=by
 have h1:=addAll_len (((segsT E top).take i).filter (fun s=>decide (vec ls s.1=v))) [];have h2:=List.length_filter_le (fun s:Sp=>decide (vec ls s.1=v)) ((segsT E top).take i);have h3:=List.length_take_le i (segsT E top);unfold clsU;simp only[List.length_nil] at h1;omega
theorem keys_old {ls:List (List Sp)}{E:List Int}{i:Nat}(hi:i<E.length)(h:vec ls E[i]∈keysU ls E i):keysU ls E (i+1)=keysU ls E i:=by
 have hd:E.getD i 0=E[i]:=by simp[List.getD_eq_getElem?_getD,hi]
 rw[keysU,hd,if_pos h]
theorem keys_new {ls:List (List Sp)}{E:List Int}{i:Nat}(hi:i<E.length)(h:vec ls E[i]∉keysU ls E i):keysU ls E (i+1)=keysU ls E i++[vec ls E[i]]:=by
 have hd:E.getD i 0=E[i]:=by simp[List.getD_eq_getElem?_getD,hi]
 rw[keysU,hd,if_neg h]
theorem step_old {ls:List (List Sp)}{E:List Int}{top:Int}{i n:Nat}{hs:List Hs}{A':Option Addr}{c':Nat}(hi:i<E.length)(hl:hs.length=(keysU ls E i).length)(hn:n<hs.length)
 (hk:(keysU ls E i)[n]'om=vec ls E[i]) (hc:∀k (h:k<hs.length),hs[k].l=clsU ls E top ((keysU ls E i).getD k []) i) :
 ∀k (h:k<(hs.set n ⟨A',c',addS (clsU ls E top (vec ls E[i]) i) (E[i],if h:i+1<E.length then E[i+1]-1 else top)⟩).length),(hs.set n ⟨A',c',addS (clsU ls E top (vec ls E[i]) i) (E[i],if h:i+1<E.length then E[i+1]-1 else top)⟩)[k].l=clsU ls E top ((keysU ls E (i+1)).getD k []) (i+1):=by
 intro k h;rw[List.length_set] at h;have hmem:vec ls E[i]∈keysU ls E i:=by rw[<-hk];exact List.getElem_mem _
 have hkd:(keysU ls E i).getD k []=(keysU ls E i)[k]'om:=by simp[List.getD_eq_getElem?_getD,show k<(keysU ls E i).length by omega]
 rw[keys_old hi hmem,clsU_succ hi,List.getElem_set,hkd];by_cases hkn:n=k
 ·subst hkn;rw[if_pos rfl,hk,if_pos rfl]
 ·rw[if_neg hkn,if_neg,hc k h,hkd];intro e;have:=(List.getElem_inj (keysU_nodup ls E i) (h₀:=om) (h₁:=om)).1 (hk.trans e);exact hkn this
theorem step_new {ls:List (List Sp)}{E:List Int}{top:Int}{i:Nat}{hs:List Hs}{A':Option Addr}{c':Nat}(hi:i<E.length)(hl:hs.length=(keysU ls E i).length)
 (hk:vec ls E[i]∉keysU ls E i) (hc:∀k (h:k<hs.length),hs[k].l=clsU ls E top ((keysU ls E i).getD k []) i) :
 ∀k (h:k<(hs++[(⟨A',c',addS [] (E[i],if h:i+1<E.length then E[i+1]-1 else top)⟩:Hs)]).length),(hs++[(⟨A',c',addS [] (E[i],if h:i+1<E.length then E[i+1]-1 else top)⟩:Hs)])[k].l=clsU ls E top ((keysU ls E (i+1)).getD k []) (i+1):=by
 intro k h;rw[List.length_append,List.length_singleton] at h;rw[keys_new hi hk,clsU_succ hi];by_cases hkn:k<hs.length
 ·have hkd:(keysU ls E i).getD k []=(keysU ls E i)[k]'om:=by simp[List.getD_eq_getElem?_getD,show k<(keysU ls E i).length by omega]
  have hkd2:(keysU ls E i++[vec ls E[i]]).getD k []=(keysU ls E i)[k]'om:=by
   rw[List.getD_eq_getElem?_getD,List.getElem?_append_left om];simp[show k<(keysU ls E i).length by omega]
  rw[hkd2,List.getElem_append_left hkn,hc k hkn,hkd,if_neg];intro e;exact hk (by rw[e];exact List.getElem_mem _)
 ·have hke:k=hs.length:=om;subst hke;have hkd2:(keysU ls E i++[vec ls E[i]]).getD hs.length []=vec ls E[i]:=by
   rw[List.getD_eq_getElem?_getD,List.getElem?_append_right om,hl]
   simp
  rw[hkd2,if_pos rfl,clsU_new om hk]
  simp
theorem okL_goodc {l:List Sp}(h:OkL l):∀s∈l,goodS s:=(okL_canon h).2
theorem okl_canonc {l:List Sp}(h:OkL l):Canon l:=(okL_canon h).1
theorem keysU_in2 {ls:List (List Sp)}{E:List Int}{k:Nat}:∀i,k<i->vec ls (E.getD k 0)∈keysU ls E i
 | 0,h=>absurd h (Nat.not_lt_zero _)
 | i+1,h=>by
  unfold keysU;by_cases hk:k=i
  ·subst hk
   split
   ·assumption
   ·simp
  ·have ih:=keysU_in2 (ls:=ls) (E:=E) (k:=k) i om
   split
   ·exact ih
   ·exact List.mem_append_left _ ih
theorem getD_in2 {E:List Int}{i:Nat}(h:i<E.length):E.getD i 0=E[i]:=by simp[List.getD_eq_getElem?_getD,h]
structure ClOk (LS:List (List Sp))(t:Int):Prop where
 ok:∀a∈LS,OkL a
 top:0<=t/\t<=1114111
namespace ClOk
variable {LS:List (List Sp)} {t:Int}
theorem eok (h:ClOk LS t):EndsOk (endsT t LS) t LS.flatten:=endsT_ok h.top.1 (fun s hs=>by
 obtain⟨a,ha,hs⟩:=List.mem_flatten.1 hs;have:=okL_goodc (h.ok a ha) s hs;unfold goodS at this;omega)
theorem einn (h:ClOk LS t):∀a∈LS,EndsIn a (endsT t LS) t:=fun a ha s hs=>h.eok.inn s (List.mem_flatten.2 ⟨a,ha,hs⟩)
theorem mem (h:ClOk LS t)(v:List Bool)(x:Int):has (Go.Proofs.YtmpcoifnpflapaaGreat.cls (endsT t LS) t (fun y=>decide (vec LS y=v))) x=(decide (vec LS x=v)&&decide (0<=x/\x<=t)):=by
 have hs:Steady (endsT t LS) t (fun y=>decide (vec LS y=v)):=steady_of h.einn (fun bs=>decide (bs=v));exact ref_has h.top.1 (fun s hs=>by
  obtain⟨a,ha,hs⟩:=List.mem_flatten.1 hs;have:=okL_goodc (h.ok a ha) s hs;unfold goodS at this;omega) hs x
theorem canon (h:ClOk LS t)(p:Int->Bool):Canon (Go.Proofs.YtmpcoifnpflapaaGreat.cls (endsT t LS) t p):=(cls_canon h.eok.ends p).1
theorem okl (h:ClOk LS t)(p:Int->Bool):OkL (Go.Proofs.YtmpcoifnpflapaaGreat.cls (endsT t LS) t p):=canon_okL (h.canon p) (cls_good h.eok.ends h.eok.head (by have:=h.top;omega) p)
theorem key (h:ClOk LS t){x:Int}(hx:0<=x/\x<=t):∃j,∃hj:j<(endsT t LS).length,(endsT t LS)[j]<=x/\vec LS (endsT t LS)[j]=vec LS x:=by
 obtain⟨s,hs,h1,h2⟩:=segsT_has h.eok.ends 0 h.eok.head x hx.1 hx.2;obtain⟨h3,_,h5,h6⟩:=segsT_mem h.eok.ends s hs;obtain⟨j,hj,e⟩:=List.getElem_of_mem h3;refine⟨j,hj,om,?_⟩;rw[e];unfold vec;refine List.map_congr_left (fun a ha=>?_);exact(has_steady (h.einn a ha) s.1 x h1 hx.2 (fun y hy hh=>h6 y hy ⟨hh.1,om⟩)).symm
theorem key_in (h:ClOk LS t){x:Int}(hx:0<=x/\x<=t):vec LS x∈keysU LS (endsT t LS) (endsT t LS).length:=by
 obtain⟨j,hj,_,e⟩:=h.key hx;have:=keysU_in2 (ls:=LS) (E:=endsT t LS) (k:=j) (endsT t LS).length hj;rw[getD_in2 hj,e] at this;exact this
theorem len_keys:(classes LS t).length=(keysU LS (endsT t LS) (endsT t LS).length).length:=by unfold classes;simp
theorem get {i:Nat}(hi:i<(classes LS t).length):(classes LS t)[i]=Go.Proofs.YtmpcoifnpflapaaGreat.cls (endsT t LS) t (fun y=>decide (vec LS y=(keysU LS (endsT t LS) (endsT t LS).length)[i]'(by rw[<-len_keys];exact hi))):=by
 have hk:i<(keysU LS (endsT t LS) (endsT t LS).length).length:=by rw[<-len_keys];exact hi
 exact List.getElem_map (l:=keysU LS (endsT t LS) (endsT t LS).length) (fun v=>Go.Proofs.YtmpcoifnpflapaaGreat.cls (endsT t LS) t (fun y=>decide (vec LS y=v))) (h:=by rw[List.length_map];exact hk)
theorem cmem (h:ClOk LS t){i:Nat}(hi:i<(classes LS t).length)(x:Int):has (classes LS t)[i] x=(decide (vec LS x=(keysU LS (endsT t LS) (endsT t LS).length)[i]'(by rw[<-len_keys];exact hi))&&decide (0<=x/\x<=t)):=by
 rw[ClOk.get hi,h.mem]
theorem cok (h:ClOk LS t){i:Nat}(hi:i<(classes LS t).length):OkL (classes LS t)[i]:=by rw[ClOk.get hi];exact h.okl _
theorem clen {i:Nat}(hi:i<(classes LS t).length):(classes LS t)[i].length<=(endsT t LS).length:=by
 rw[ClOk.get hi,<-clsU_all];exact clsU_len
theorem keys_ne {i k:Nat}(hki:k<i)(hi:i<(classes LS t).length)(hk:k<(classes LS t).length):(keysU LS (endsT t LS) (endsT t LS).length)[i]'(by rw[<-len_keys];exact hi)≠(keysU LS (endsT t LS) (endsT t LS).length)[k]'(by rw[<-len_keys];exact hk):=by
 have hn:=keysU_nodup LS (endsT t LS) (endsT t LS).length;intro e;have:=List.pairwise_iff_getElem.1 hn k i (by rw[<-len_keys];exact hk) (by rw[<-len_keys];exact hi) hki;exact this e.symm
end ClOk
theorem vec_has {LS:List (List Sp)}{x y:Int}(h:vec LS x=vec LS y):∀a∈LS,has a x=has a y:=fun a ha=>List.map_inj_left.1 h a ha
def setsOf (G:List Ins):List (List Sp):=(G.filter (fun i=>decide (i.op=1))).map (·.set)
theorem setsOf_mem {G:List Ins}{a:List Sp}:a∈setsOf G<->∃i∈G,i.op=1/\i.set=a:=by
 unfold setsOf;simp[List.mem_map,List.mem_filter,and_assoc]
theorem topV_rng (runes:Bool):0<=topV runes/\topV runes<=1114111:=by
 cases runes<;>simp[topV]
theorem GOk.set_ok {runes:Bool}{caps:Int}{G:List Ins}(h:GOk runes caps G){i:Ins}(hi:i∈G)(ho:i.op=1):validE i.set=0:=by
 obtain⟨k,hk,rfl⟩:=List.mem_iff_getElem.1 hi;obtain⟨_,_,_,_,h5⟩:=h.ins k hk;rcases h5 with h5|h5|h5|h5|h5|h5
 ·omega
 ·exact h5.2.1
 ·omega
 ·omega
 ·omega
 ·omega
theorem GOk.clOk {runes:Bool}{caps:Int}{G:List Ins}(h:GOk runes caps G):ClOk (setsOf G) (topV runes):=
 ⟨fun a ha=>by
  obtain⟨i,hi,ho,rfl⟩:=setsOf_mem.1 ha;exact(validE_zero (h.set_ok hi ho)).1,topV_rng runes⟩
def keptG (runes:Bool)(G:List Ins):List (List Sp):=keepC runes (classes (setsOf G) (topV runes))
def symsP (runes:Bool)(G:List Ins):List Int:=(keptG runes G).map (smpP runes)
theorem kept_mem {runes:Bool}{G:List Ins}{c:List Sp}(h:c∈keptG runes G):c∈classes (setsOf G) (topV runes)/\(endsL c).any (symV runes)=true:=by
 unfold keptG keepC at h;rw[List.mem_filter] at h;exact h
theorem class_alike {runes:Bool}{caps:Int}{G:List Ins}(hG:GOk runes caps G){c:List Sp}(hc:c∈classes (setsOf G) (topV runes)){a b:Int}(ha:has c a=true)(hb:has c b=true)(l:St):nextG G l a=nextG G l b:=by
 obtain⟨i,hi,rfl⟩:=List.mem_iff_getElem.1 hc;rw[hG.clOk.cmem hi,Bool.and_eq_true,decide_eq_true_iff] at ha hb;have hv:=ha.1.trans hb.1.symm;exact nextG_alike (fun x hx ho=>vec_has hv _ (setsOf_mem.2 ⟨x,hx,ho,rfl⟩)) l
theorem class_le {runes:Bool}{caps:Int}{G:List Ins}(hG:GOk runes caps G){c:List Sp}(hc:c∈classes (setsOf G) (topV runes)):∀s∈c,s.1<=s.2:=by
 obtain⟨i,hi,rfl⟩:=List.mem_iff_getElem.1 hc;intro s hs;exact(okl_canonc (hG.clOk.cok hi)).1 s hs
theorem sym_class {runes:Bool}{caps:Int}{G:List Ins}(hG:GOk runes caps G){x:Int}(hx:symV runes x=true):∃k,∃hk:k<(keptG runes G).length,has (keptG runes G)[k] x=true:=by
 have hr:0<=x/\x<=topV runes:=by
  unfold symV at hx;unfold topV;cases runes
  ·simpa using hx
  ·simp only[if_true,Bool.or_eq_true,decide_eq_true_eq] at hx ⊢;omega
 obtain⟨i,hi,e⟩:=List.getElem_of_mem (hG.clOk.key_in hr);have hic:i<(classes (setsOf G) (topV runes)).length:=by rw[ClOk.len_keys];exact hi
 have hh:has (classes (setsOf G) (topV runes))[i] x=true:=by
  rw[hG.clOk.cmem hic,<-e,decide_eq_true rfl,decide_eq_true hr];rfl
 have hm:=List.getElem_mem hic;have hok:=hG.clOk.cok hic;generalize (classes (setsOf G) (topV runes))[i]=c at *;obtain⟨y,hy,hv⟩:=endsL_any (runes:=runes) (c:=c) (fun s hs=>by
  have h1:=okL_goodc hok s hs;unfold goodS at h1;refine⟨h1.1,?_⟩;have h2:has c s.2=true:=has_iff.2 ⟨s,hs,h1.2.1,Int.le_refl _⟩;obtain⟨j,hj,rfl⟩:=List.mem_iff_getElem.1 hm;rw[hG.clOk.cmem hj,Bool.and_eq_true,decide_eq_true_iff,decide_eq_true_iff] at h2;exact h2.2.2) hh hx
 have hk:c∈keptG runes G:=List.mem_filter.2 ⟨hm,List.any_eq_true.2 ⟨y,hy,hv⟩⟩;obtain⟨k,hkl,rfl⟩:=List.mem_iff_getElem.1 hk;exact⟨k,hkl,hh⟩
theorem classes_apart {runes:Bool}{caps:Int}{G:List Ins}(hG:GOk runes caps G):(classes (setsOf G) (topV runes)).Pairwise (fun a b=>∀x,has a x=true->has b x=true->False):=by
 rw[List.pairwise_iff_getElem];intro i j hi hj hij x h1 h2;rw[hG.clOk.cmem hi,Bool.and_eq_true,decide_eq_true_iff] at h1;rw[hG.clOk.cmem hj,Bool.and_eq_true,decide_eq_true_iff] at h2;exact ClOk.keys_ne hij hj hi (h2.1.symm.trans h1.1)
theorem kept_apart {runes:Bool}{caps:Int}{G:List Ins}(hG:GOk runes caps G)(x:Int)(k k':Nat)(hk:k<(keptG runes G).length)(hk':k'<(keptG runes G).length)(h1:has (keptG runes G)[k] x=true)(h2:has (keptG runes G)[k'] x=true):k=k':=by
 have hp:(keptG runes G).Pairwise (fun a b=>∀x,has a x=true->has b x=true->False):=(classes_apart hG).filter _;rw[List.pairwise_iff_getElem] at hp;rcases Nat.lt_trichotomy k k' with h|h|h
 ·exact(hp k k' hk hk' h x h1 h2).elim
 ·exact h
 ·exact(hp k' k hk' hk h x h2 h1).elim
def stsG (G:List Ins)(cs:List Int):Option (List St):=expl (fun l=>cs.map (nextG G l)) 1030 0 (grow [] (stateG G [0]))
open Classical in
noncomputable def newE (runes:Bool) (caps:Int) (G:List Ins):Int:=
 if chkE runes caps G≠0 then chkE runes caps G else if splitE (setsOf G) (topV runes)≠0 then splitE (setsOf G) (topV runes) else
  match stsG G (symsP runes G) with|none=>4|some _=>0
def lastOf (top:Int):List Sp->Int
 | []=>top
 | p::_=>p.1-1
structure SpI (wr:World)(base gW gM:Nat)(ls:List (List Sp))(E:List Int)(top:Int)(m:List Sp)(i:Nat)(x:Int)(pre rem:List Sp)(ws:List Int)(ents:List (K16×Int))(O:Option Addr)(cO:Nat)(hs:List Hs):Prop where
 cut:m=pre++rem/\(∀p∈pre,p.1<x)/\∀p∈rem,x<=p.1
 rep:WRep ws (par pre)
 blk:Blk wr gW 242 (ws.map (Value.int .u64)).toArray
 map:MapAt wr gM k16V (Value.int .i64) ents
 elen:ents.length=(keysU ls E i).length
 keys:∀n (h:n<ents.length),ents[n].2=(n:Int)/\WRep ents[n].1.1 (fun q=>((keysU ls E i).getD n []).getD q false)
 out:SO wr base O cO hs
 hlen:hs.length=(keysU ls E i).length
 cls:∀n (h:n<hs.length),hs[n].l=clsU ls E top ((keysU ls E i).getD n []) i
theorem cut_next {E:List Int}{m pre rem:List Sp}{top:Int}{i:Nat}(h:EvOk E m top)(hi:i<E.length)(hc:Cut m pre rem E[i]):m=pre++rem/\(∀p∈pre,p.1<lastOf top rem+1)/\∀p∈rem,lastOf top rem+1<=p.1:=by
 obtain⟨hm,h1,h2⟩:=hc;refine⟨hm,fun p hp=>?_,fun p hp=>?_⟩
 ·cases rem with
  | nil=>
   have:=h.ends.le _ (h.mem p (by rw[hm];simp[hp]));simp only[lastOf];omega
  | cons r rem=>
   have h3:=h1 p hp;have h4:=h2 r si;simp only[lastOf];omega
 ·cases rem with
  | nil=>simp at hp
  | cons r rem=>
   have hs:=h.srt;rw[hm] at hs;have h3:=(List.pairwise_append.1 hs).2.1;simp only[lastOf];rcases List.mem_cons.1 hp with rfl|h4
   ·omega
   ·have:=(List.pairwise_cons.1 h3).1 p h4;omega
theorem SpI.old {wr wA:World}{base gW gM i n g c' cO:Nat}{ls:List (List Sp)}{E:List Int}{top:Int}{m pre rem:List Sp}{ws:List Int}{ents:List (K16×Int)}{O A':Option Addr}{hs:List Hs}
 (hE:EvOk E m top) (hi:i<E.length) (hblk:Blk wr gW 242 (ws.map (Value.int .u64)).toArray) (hmap:MapAt wr gM k16V (Value.int .i64) ents) (hso:SO wr base O cO hs)
 (hrep:WRep ws (par pre)) (hcut:Cut m pre rem E[i])
 (hel:ents.length=(keysU ls E i).length) (hek:∀n (h:n<ents.length),ents[n].2=(n:Int)/\WRep ents[n].1.1 (fun q=>((keysU ls E i).getD n []).getD q false))
 (hl:hs.length=(keysU ls E i).length) (hc:∀k (h:k<hs.length),hs[k].l=clsU ls E top ((keysU ls E i).getD k []) i)
 (hn:n<hs.length) (hk:(keysU ls E i)[n]'om=vec ls E[i]) (kA:KpP (fun b=>hs[n].A.map (·.block)=some b) wr wA) (hO:O=some ⟨g,0,none⟩) (v:Value)
 (hso2:SO (wA.setCell ⟨g,n,none⟩ v) base O cO (hs.set n ⟨A',c',addS (clsU ls E top (vec ls E[i]) i) (E[i],lastOf top rem)⟩)) :
 SpI (wA.setCell ⟨g,n,none⟩ v) base gW gM ls E top m (i+1) (lastOf top rem+1) pre rem ws ents O cO (hs.set n ⟨A',c',addS (clsU ls E top (vec ls E[i]) i) (E[i],lastOf top rem)⟩):=by
 have hmem:vec ls E[i]∈keysU ls E i:=by rw[<-hk];exact List.getElem_mem _
 have hko:=keys_old hi hmem;have hnx:(if h:i+1<E.length then E[i+1]-1 else top)=lastOf top rem:=(hE.next hi hcut).trans (by cases rem<;>rfl);have hst:=step_old (A':=A') (c':=c') (top:=top) hi hl hn hk hc;rw[hnx] at hst;have hpn:=hso.each _ (List.getElem_mem hn);have hgo:O.map (·.block)=some g:=by rw[hO];rfl
 have kk:KpP (fun b=>hs[n].A.map (·.block)=some b\/b=g) wr (wA.setCell ⟨g,n,none⟩ v):=
  (KpP.mono kA (fun b hb=>.inl hb)).trans (KpP.set (p:=fun b=>hs[n].A.map (·.block)=some b\/b=g) (x:=⟨g,n,none⟩) (KpP.of_ext (Ext.rfl' _)) (.inl (.inr rfl)) v)
 have hbW:hs[n].A.map (·.block)≠some gW:=own_blk hpn hblk de;have hgW:gW≠g:=fun e=>own_blk hso.own hblk de (by rw[hgo,e]);have hgM:¬(hs[n].A.map (·.block)=some gM\/gM=g):=by
  rintro(e|e)
  ·obtain⟨_,cur,hh⟩:=OwnS.blt hpn e;exact hmap.ne (g:=gM) (T:=_) (cs:=_) hh rfl
  ·obtain⟨_,cur,hh⟩:=OwnS.blt hso.own hgo;exact hmap.ne (g:=g) (T:=_) (cs:=_) hh e
 refine⟨cut_next hE hi hcut,hrep,?_,hmap.kp kk hgM,by rw[hko];exact hel,by rw[hko];exact hek,hso2,by rw[hko,List.length_set];exact hl,hst⟩;unfold Blk at hblk ⊢;rw[kk.block gW (Blk.lt hblk) (fun e=>e.elim hbW hgW)];exact hblk
theorem SO.kpm {w w':World}{base cO g:Nat}{O:Option Addr}{hs:List Hs}{kv:K16->Value}{vv:Int->Value}{l:List (K16×Int)}(h:SO w base O cO hs)(hm:MapAt w g kv vv l)(k:KpP (·=g) w w'):SO w' base O cO hs:=
 ⟨OwnS.kp h.own k (fun b hA e=>by
  obtain⟨_,cur,hh⟩:=OwnS.blt h.own hA;exact hm.ne hh e.symm),fun z hz=>(h.each z hz).kp k (fun b hA e=>by
  obtain⟨_,cur,hh⟩:=OwnS.blt (h.each z hz) hA;exact hm.ne hh e.symm),h.apart⟩
theorem putW {P:Program}{t k e:Nat}{w:World}{b:Nat}{kv:K16->Value}{vv:Int->Value}{l:List (K16×Int)}(h:MapAt w b kv vv l)(K:KLaw P k kv)(ht:P.underlying t=some (.map k e))(x:K16)(v:Int) :
 ∃w',(Instr.mapUpdate t (.map (some b)) (kv x) (vv v)).run P w=.ok () w'/\MapAt w' b kv vv (putL l x v)/\KpP (·=b) w w':=by
 obtain⟨o,h1,h2⟩:=h.put K ht x v;exact⟨_,h1,h2,kp_setBlock _ _ _⟩
theorem SpI.new {wS:World}{base gW gM i c' cO:Nat}{ls:List (List Sp)}{E:List Int}{top:Int}{m pre rem:List Sp}{ws:List Int}{ents:List (K16×Int)}{O A':Option Addr}{hs:List Hs}
 (hE:EvOk E m top) (hi:i<E.length) (hw:ws.length=16) (hblk:Blk wS gW 242 (ws.map (Value.int .u64)).toArray) (hmap:MapAt wS gM k16V (Value.int .i64) (ents++[((⟨ws,hw⟩:K16),(hs.length:Int))]))
 (hrep:WRep ws (par pre)) (hrv:WRep ws (fun q=>(vec ls E[i]).getD q false)) (hcut:Cut m pre rem E[i])
 (hel:ents.length=(keysU ls E i).length) (hek:∀n (h:n<ents.length),ents[n].2=(n:Int)/\WRep ents[n].1.1 (fun q=>((keysU ls E i).getD n []).getD q false))
 (hl:hs.length=(keysU ls E i).length) (hc:∀k (h:k<hs.length),hs[k].l=clsU ls E top ((keysU ls E i).getD k []) i)
 (hk:vec ls E[i]∉keysU ls E i)
 (hso2:SO wS base O cO (hs++[(⟨A',c',addS [] (E[i],lastOf top rem)⟩:Hs)])) :
 SpI wS base gW gM ls E top m (i+1) (lastOf top rem+1) pre rem ws (ents++[((⟨ws,hw⟩:K16),(hs.length:Int))]) O cO (hs++[(⟨A',c',addS [] (E[i],lastOf top rem)⟩:Hs)]):=by
 have hkn:=keys_new hi hk;have hnx:(if h:i+1<E.length then E[i+1]-1 else top)=lastOf top rem:=(hE.next hi hcut).trans (by cases rem<;>rfl);have hst:=step_new (A':=A') (c':=c') (top:=top) hi hl hk hc;rw[hnx] at hst;refine⟨cut_next hE hi hcut,hrep,hblk,hmap,by rw[hkn,List.length_append,List.length_append,hel];rfl,fun n h=>?_,hso2,by rw[hkn,List.length_append,List.length_append,hl];rfl,hst⟩;rw[hkn];rw[List.length_append,List.length_singleton] at h;by_cases hn:n<ents.length
 ·rw[List.getElem_append_left hn];have hd:(keysU ls E i++[vec ls E[i]]).getD n []=(keysU ls E i).getD n []:=by
   rw[List.getD_eq_getElem?_getD,List.getElem?_append_left om,<-List.getD_eq_getElem?_getD]
  rw[hd];exact hek n hn
 ·obtain rfl:n=ents.length:=om;have hd:(keysU ls E i++[vec ls E[i]]).getD ents.length []=vec ls E[i]:=by
   rw[List.getD_eq_getElem?_getD,List.getElem?_append_right om,hel]
   simp
  rw[hd,List.getElem_append_right (Nat.le_refl _)];simp only[Nat.sub_self,List.getElem_cons_zero];exact⟨by rw[hl,hel],hrv⟩
theorem SO.putNew {w w':World}{base cO:Nat}{O:Option Addr}{hs:List Hs}(h:SO w base O cO (hs++[(⟨none,0,[]⟩:Hs)])){A':Option Addr}{c':Nat}{l':List Sp}(k:KpP (fun b=>(none:Option Addr).map (·.block)=some b) w w')(ho:OwnP w' base A' c' l')
 (hat:A'.map (·.block)=(none:Option Addr).map (·.block)\/∃b,A'.map (·.block)=some b/\w.heap.size<=b) :
 ∃g,O=some ⟨g,0,none⟩/\base<=g/\w'.cell? ⟨g,hs.length,none⟩=some (.slice none 0 0)/\w'.frozen? ⟨g,hs.length,none⟩=false/\SO (w'.setCell ⟨g,hs.length,none⟩ (.slice A' l'.length c')) base O cO (hs++[(⟨A',c',l'⟩:Hs)]):=by
 have hn:hs.length<(hs++[(⟨none,0,[]⟩:Hs)]).length:=by simp
 have he:(hs++[(⟨none,0,[]⟩:Hs)])[hs.length]'hn=⟨none,0,[]⟩:=by simp
 obtain⟨g,h1,h2,h3,h4,h5⟩:=h.put (n:=hs.length) hn (w':=w') (A':=A') (c':=c') (l':=l') (by rw[he];exact k) ho (by rw[he];exact hat);rw[he] at h3;refine⟨g,h1,h2,h3,h4,?_⟩;rw[List.set_append_right _ _ (Nat.le_refl _)] at h5
 simpa using h5
theorem new_kept {wp w4 wA:World}{base gW gM eb cO cE n:Nat}{O E2:Option Addr}{hs hs2:List Hs}{ents:List (K16×Int)}{ws:List Int}{ob:Obj}(hmp:MapAt wp gM k16V (Value.int .i64) ents)(hb:Blk wp gW 242 (ws.map (Value.int .u64)).toArray)(h1:SO wp base O cO hs)
 (hg:(wp.alloc ob).grownBy w4 (O.map (·.block))) (h4:SO w4 base E2 cE hs2) (hE:E2=some ⟨eb,0,none⟩) (kA:KpP (fun b=>(none:Option Addr).map (·.block)=some b) w4 wA) (v:Value) :
 MapAt (wA.setCell ⟨eb,n,none⟩ v) gM k16V (Value.int .i64) ents/\Blk (wA.setCell ⟨eb,n,none⟩ v) gW 242 (ws.map (Value.int .u64)).toArray:=by
 have hnM:O.map (·.block)≠some gM:=fun e=>by
  obtain⟨_,cur,hh⟩:=OwnS.blt h1.own e;exact hmp.ne hh rfl
 have hnW:=own_blk h1.own hb de;have k4:KpP (fun b=>O.map (·.block)=some b) wp w4:=(KpP.of_ext (Ext.alloc _ _)).trans (KpP.of_grown hg);have m4:=hmp.kp k4 hnM;have b4:Blk w4 gW 242 (ws.map (Value.int .u64)).toArray:=k4.blk hb hnW;have mA:=m4.kp kA si;have bA:Blk wA gW 242 (ws.map (Value.int .u64)).toArray:=kA.blk b4 si;have hEb:E2.map (·.block)=some eb:=by rw[hE];rfl
 have hM:gM≠eb:=fun e=>by
  obtain⟨_,cur,hh⟩:=OwnS.blt h4.own hEb;exact m4.ne hh e
 have hW:gW≠eb:=fun e=>own_blk h4.own b4 de (by rw[hEb,e]);have kS:KpP (·=eb) wA (wA.setCell ⟨eb,n,none⟩ v):=KpP.set (p:=(·=eb)) (x:=⟨eb,n,none⟩) (KpP.of_ext (Ext.rfl' _)) (.inl rfl) v;exact⟨mA.kp kS hM,kS.blk bA hW⟩
theorem clsU_mono {ls:List (List Sp)}{E:List Int}{top:Int}{v:List Bool}{i:Nat}:∀j,i<=j->j<=E.length->(clsU ls E top v i).length<=(clsU ls E top v j).length
 | 0,h,_=>by
  obtain rfl:i=0:=om;exact Nat.le_refl _
 | j+1,h,hj=>by
  rcases Nat.lt_or_ge j i with h1|h1
  ·obtain rfl:i=j+1:=om;exact Nat.le_refl _
  ·have ih:=clsU_mono (ls:=ls) (E:=E) (top:=top) (v:=v) j h1 om;rw[clsU_succ (show j<E.length by omega)]
   split
   ·exact Nat.le_trans ih (addS_len _ _).1
   ·exact ih
theorem keysU_get {ls:List (List Sp)}{E:List Int}{i n:Nat}(hn:n<(keysU ls E i).length):∀j,i<=j->n<(keysU ls E j).length/\(keysU ls E j).getD n []=(keysU ls E i).getD n []
 | 0,h=>by
  obtain rfl:i=0:=om;exact⟨hn,rfl⟩
 | j+1,h=>by
  rcases Nat.lt_or_ge j i with h1|h1
  ·obtain rfl:i=j+1:=om;exact⟨hn,rfl⟩
  ·obtain⟨h2,h3⟩:=keysU_get hn j h1;rw[keysU]
   split
   ·exact⟨h2,h3⟩
   ·refine⟨by rw[List.length_append];omega,?_⟩
    rw[<-h3,List.getD_eq_getElem?_getD,List.getElem?_append_left h2,<-List.getD_eq_getElem?_getD]
theorem split_4 {LS:List (List Sp)}{E:List Int}{top:Int}{i n:Nat}(hC:classes LS top=(keysU LS E E.length).map (fun v=>cls E top (fun x=>decide (vec LS x=v))))
 (hS:splitE LS top=if(classes LS top).any (fun a=>decide (64<a.length))=true then 4 else 0) (hi:i<=E.length) (hn:n<(keysU LS E i).length) (h:64<(clsU LS E top ((keysU LS E i).getD n []) i).length):splitE LS top=4:=by
 rw[hS,if_pos];rw[List.any_eq_true,hC];obtain⟨h2,h3⟩:=keysU_get hn E.length hi;have h4:(keysU LS E E.length)[n]=(keysU LS E i).getD n []:=by rw[<-h3];simp[List.getD_eq_getElem?_getD,h2]
 refine⟨_,List.mem_map.2 ⟨(keysU LS E E.length)[n],List.getElem_mem h2,rfl⟩,?_⟩
 rw[<-clsU_all,h4,decide_eq_true_iff];exact Nat.lt_of_lt_of_le h (clsU_mono E.length hi (Nat.le_refl _))
theorem split_0 {LS:List (List Sp)}{E:List Int}{top:Int}{hs:List Hs}(hC:classes LS top=(keysU LS E E.length).map (fun v=>cls E top (fun x=>decide (vec LS x=v))))
 (hS:splitE LS top=if(classes LS top).any (fun a=>decide (64<a.length))=true then 4 else 0) (hl:hs.length=(keysU LS E E.length).length)
 (hc:∀k (h:k<hs.length),hs[k].l=clsU LS E top ((keysU LS E E.length).getD k []) E.length) (h64:∀k (h:k<hs.length),hs[k].l.length<=64):splitE LS top=0/\hs.map (·.l)=classes LS top:=by
 have hm:hs.map (·.l)=classes LS top:=by
  rw[hC];refine List.ext_getElem (by simpa using hl) (fun k h1 h2=>?_);have h3:k<hs.length:=by simpa using h1
  rw[List.getElem_map,List.getElem_map,hc k h3,clsU_all];simp[List.getD_eq_getElem?_getD,show k<(keysU LS E E.length).length by omega]
 refine⟨?_,hm⟩;rw[hS,if_neg];rw[List.any_eq_true,<-hm];rintro⟨a,ha,h⟩;obtain⟨z,hz,rfl⟩:=List.mem_map.1 ha;obtain⟨k,hk,rfl⟩:=List.getElem_of_mem hz;have:=h64 k hk;rw[decide_eq_true_iff] at h;omega
end
end Go.Proofs.YtmpcoifnpflapaaGreat
