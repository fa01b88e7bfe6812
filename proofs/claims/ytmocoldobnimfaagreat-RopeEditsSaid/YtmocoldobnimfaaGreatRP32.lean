/- Texts of this proof: G20. -/
import Derived.Test.YtmocoldobnimfaaGreatRP30
import Derived.Shelf.SlSortCmp.NoneTotal
set_option linter.all false
set_option maxRecDepth 100000
set_option maxHeartbeats 8000000
namespace Go.Proofs.YtmocoldobnimfaaGreat
section
open Go.RowKit
def evS (i:Nat)(top:Int)(s:Sp):List Sp:=(if s.1≤top then[(s.1,(i:Int))] else[])++(if s.2+1≤top then[(s.2+1,(i:Int))] else[])
def evL (top:Int)(i:Nat)(l:List Sp):List Sp:=l.flatMap (evS i top)
def evs (top:Int)(ls:List (List Sp)):List Sp:=(List.range ls.length).flatMap (fun q=>evL top q (ls.getD q []))
def evU (top:Int)(ls:List Hs)(i k:Nat):List Sp:=((List.range i).flatMap (fun q=>evL top q ((ls.map (·.l)).getD q [])))++evL top i (((ls.map (·.l)).getD i []).take k)
theorem evU_zero (top:Int)(ls:List Hs)(i:Nat):evU top ls i 0=(List.range i).flatMap (fun q=>evL top q ((ls.map (·.l)).getD q [])):=by simp[evU,evL]
theorem evU_getD {ls:List Hs}{i:Nat}(hi:i<ls.length):(ls.map (·.l)).getD i []=ls[i].l:=by simp[List.getD_eq_getElem?_getD,hi]
theorem evU_next {top:Int}{ls:List Hs}{i:Nat}(hi:i<ls.length):evU top ls i ls[i].l.length=evU top ls (i+1) 0:=by
 rw[evU_zero,List.range_succ,List.flatMap_append];unfold evU;rw[evU_getD hi,List.take_length]
 congr 1
 simp only[List.flatMap_cons,List.flatMap_nil,List.append_nil];rw[evU_getD hi]
theorem evU_step {top:Int}{ls:List Hs}{i k:Nat}(hi:i<ls.length)(hk:k<ls[i].l.length):evU top ls i (k+1)=evU top ls i k++evS i top ls[i].l[k]:=by
 unfold evU;rw[evU_getD hi,List.take_succ_eq_append_getElem hk];unfold evL;rw[List.flatMap_append,List.append_assoc]
 simp
theorem evU_all (top:Int)(ls:List Hs):evU top ls ls.length 0=evs top (ls.map (·.l)):=by
 rw[evU_zero];unfold evs;rw[List.length_map]
theorem evS_len (i:Nat)(top:Int)(s:Sp):(evS i top s).length≤2:=by
 unfold evS;split<;>split<;>simp
theorem evL_len (top:Int)(i:Nat)(l:List Sp):(evL top i l).length≤2*l.length:=by
 unfold evL;induction l with
 | nil=>simp
 | cons s l ih=>
  have:=evS_len i top s;simp only[List.flatMap_cons,List.length_append,List.length_cons];omega
theorem evU_ok {top:Int}{ls:List Hs}(hg:∀h∈ls,∀s∈h.l,goodS s)(i k:Nat):∀p∈evU top ls i k,enOk p∧p.1≤top∧0≤p.2∧p.2≤i:=by
 have key:∀q (l:List Sp),(∀s∈l,goodS s)→∀p∈evL top q l,enOk p∧p.1≤top∧p.2=q:=fun q l hl p hp=>by
  obtain⟨s,hs,hp⟩:=List.mem_flatMap.1 hp;have h:=hl s hs;unfold goodS at h;unfold evS at hp;unfold enOk;rcases List.mem_append.1 hp with hp|hp
  ·split at hp
   ·rename_i hc
    obtain rfl:=List.mem_singleton.1 hp;exact⟨⟨h.1,by simp only;omega⟩,hc,rfl⟩
   ·simp at hp
  ·split at hp
   ·rename_i hc
    obtain rfl:=List.mem_singleton.1 hp;exact⟨⟨by simp only;omega,by simp only;omega⟩,hc,rfl⟩
   ·simp at hp
 have hgd:∀q,∀s∈(ls.map (·.l)).getD q [],goodS s:=fun q s hs=>by
  rcases Nat.lt_or_ge q ls.length with h|h
  ·rw[evU_getD h] at hs;exact hg _ (List.getElem_mem h) s hs
  ·rw[List.getD_eq_getElem?_getD,List.getElem?_eq_none (by simpa using h)] at hs;simp at hs
 intro p hp;unfold evU at hp;rcases List.mem_append.1 hp with hp|hp
 ·obtain⟨q,hq,hp⟩:=List.mem_flatMap.1 hp;have hqi:=List.mem_range.1 hq;have:=key q _ (hgd q) p hp;exact⟨this.1,this.2.1,om,om⟩
 ·have:=key i _ (fun s hs=>hgd i s (List.mem_of_mem_take hs)) p hp;exact⟨this.1,this.2.1,om,om⟩
theorem OwnE.some {w:World}{base c:Nat}{A:Option Addr}{l:List Sp}(h:OwnE w base A c l):(A=none∧c=0∧l=[])∨∃g,A=some ⟨g,0,none⟩:=by
 rcases OwnS.form h with⟨h1,h2,h3,_⟩|⟨g,cur,h1,_⟩
 ·exact .inl ⟨h1,h3,List.length_eq_zero_iff.1 h2⟩
 ·exact .inr ⟨g,h1⟩
theorem sortNoneE (p:Option Addr)(c:Nat)(fv:Value)(w:World):Calls Tryz.prog 156 #[.slice p 0 c,fv] w (fun e w'=>e=.returned (.tuple #[])∧w'=w):=by
 have h:=AnyF.slices_SortFunc_none Tryz.sortEnd p c fv w;change Calls Tryz.prog 156 _ _ _ at h;exact h
theorem sortAnyE (base c:Nat)(A:Option Addr)(l:List Sp)(hg:∀s∈l,enOk s)(w:World)(hl:OwnE w base A c l)(hlen:l.length≤1000000) :
 Calls Tryz.prog 156 #[.slice A l.length c,.func (.func 157) #[] #[]] w (fun e w'=>e=.returned (.tuple #[])∧∃m:List Sp,l.Perm m∧m.Pairwise (fun s t=>s.1≤t.1)∧m.length=l.length∧OwnE w' base A c m∧KpP (fun b=>A.map (·.block)=some b) w w'):=by
 rcases hl.some with⟨rfl,rfl,rfl⟩|⟨g,rfl⟩
 ·refine(sortNoneE none 0 _ w).mono ?_;rintro e w' ⟨rfl,rfl⟩;exact⟨rfl,[],List.Perm.refl _,List.Pairwise.nil,rfl,hl,KpP.refl _ _⟩
 ·refine(sortE_any base g c l hg w hl hlen).mono ?_;rintro e w' ⟨rfl,m,h1,h2,h3,h4,h5⟩;exact⟨rfl,m,h1,h2,h3,h4,h5.mono (fun k hk=>by simp[hk])⟩
theorem endsOf_any (A:Option Addr)(c:Nat)(ls:List Hs)(top:Int)(w:World)(hl:LLS w A c ls)(hg:∀h∈ls,∀s∈h.l,goodS s)(hlen:(ls.map (·.l)).flatten.length≤10000)(hnl:ls.length≤100000)(hbound:∀i k,(evU top ls i k).length≤100000) :
 Calls Tryz.prog 115 #[.slice A ls.length c,.int .i64 top] w (fun e w'=>∃(E:Option Addr) (cE:Nat) (m:List Sp),e=.returned (.slice E m.length cE)∧(evs top (ls.map (·.l))).Perm m∧m.Pairwise (fun s t=>s.1≤t.1)∧OwnE w' w.heap.size E cE m∧Ext w w'):=by
 obtain⟨iE,jE0,jE1,jE2,jE3⟩:=info_parts infoEn;have hcap:=hl.len;have HEA:=lh (evU_all top ls);have HE0:=lh (evU_zero top ls 0);have HOKE:=fun(i k:Nat)=>lh (evU_ok (top:=top) hg i k);have HBN:=lh hbound;clear hbound;go_enter Tryz.func115,Tryz.ntmps115
 go_wp2_with fail
 go_loopw [5,12] (fun v5 v12 wr=>∃(i:Nat) (E:Option Addr) (cE:Nat) (xs:List Sp),v12=.int .i64 i∧i≤ls.length∧v5=.slice E xs.length cE∧Hid (xs=evU top ls i 0∧OwnE wr w.heap.size E cE xs)∧Ext w wr) (fun _ v _=>ls.length-(intOf v).toNat)
 case atStart=>exact⟨0,none,0,[],rfl,om,rfl,⟨by rw[HE0.out];rfl,OwnS.nil _ _ _ _⟩,Ext.rfl' _⟩
 case round=>
  obtain⟨i,E,cE,xs,rfl,hi,rfl,HX,x1⟩:=hrel;by_cases hlt:i<ls.length
  ·have hiI:(i:Int)<ls.length:=om;obtain⟨pb,po,rfl,g0⟩:=(hl.ext x1).get hlt;have hsl:=hl.sl _ (List.getElem_mem hlt);have hgg:=hg _ (List.getElem_mem hlt);have hsll:=hsl.len;have HNX:=lh (evU_next (top:=top) hlt);have HSTP:=fun(k:Nat) (hk:k<ls[i].l.length)=>lh (evU_step (top:=top) hlt hk);generalize ls[i]=hh at *;obtain⟨hA,hc,hl2⟩:=hh
   simp only at g0 hsl hgg hsll HNX HSTP
   go_wp2_with fail
   go_loopw [5,19] (fun v5 v19 wk=>∃(q:Nat) (E:Option Addr) (cE:Nat) (xs:List Sp),v19=.int .i64 q∧q≤hl2.length∧v5=.slice E xs.length cE∧Hid (xs=evU top ls i q∧OwnE wk w.heap.size E cE xs)∧Ext w wk) (fun _ v _=>hl2.length-(intOf v).toNat)
   case atStart=>exact⟨0,E,cE,xs,rfl,om,rfl,HX,x1⟩
   case round=>
    clear HX x1;obtain⟨q,E,cE,xs,rfl,hq,rfl,HX,xk⟩:=hrel;by_cases hkl:q<hl2.length
    ·have hkI:(q:Int)<hl2.length:=om;obtain⟨sb,so,rfl,g1,g2⟩:=(hsl.ext xk).get hkl;have hgs:=hgg _ (List.getElem_mem hkl);have HS2:=HSTP q hkl;generalize hl2[q]=s at *;obtain⟨lo,hi2⟩:=s;have hgs':0≤lo∧lo≤hi2∧hi2≤1114111:=hgs
     simp only at g1 g2 HS2
     have hw1:IntKind.i64.wrap (hi2+1)=hi2+1:=wj;obtain⟨b1,xa⟩:=alloc1 wr 38 #[.int .i64 lo,.int .i64 hi2];obtain⟨p0,p1,_,_,pz⟩:=b1.c2
     go_upto_region 8 with fail
     obtain⟨gs,hgs2⟩:∃gs,gs=wr.heap.size:=⟨_,rfl⟩
     rw[←hgs2] at b1 p0 p1 pz ⊢;generalize wr.alloc (.cells #[.int .i64 lo,.int .i64 hi2] 38)=wa at *;have hxb:xs.length≤100000:=by have:=HBN.out i q;rw[←HX.out.1] at this;omega
     have HO:=lh (OwnS.ext HX.out.2 xa);have hXA:=xk.trans xa;have HSE:=lh (show xs++evS i top (lo,hi2)=evU top ls i (q+1) by rw[HS2.out,HX.out.1]);clear HX HS2 HSTP hgs hgg hgs2 xa xk;by_cases hlo:lo≤top
     ·by_cases hhi:hi2+1≤top
      ·have HSE2:Hid (xs++[(lo,(i:Int))]++[(hi2+1,(i:Int))]=evU top ls i (q+1)):=by
        have h:=HSE.out;simp only[evS,if_pos hlo,if_pos hhi] at h
        show _=_
        rw[←h,List.append_assoc]
       have HL2:=lh (show(xs++[(lo,(i:Int))]++[(hi2+1,(i:Int))]).length=xs.length+1+1 by simp);clear HSE
       go_wp2_with (first|(at_builtin;refine wpList_app _ rfl _ _ _ rfl w.heap.size 207 iE _ 2 16 Tryz.underlying201 jE0 jE1 jE2 jE3 rfl om E2 (xs.length+1) cE2 (flatS xs++flatS [(lo,(i:Int))]) rfl (OwnS.ext ho4 (Ext.alloc _ _)) _ 1 1 (flatS [(hi2+1,(i:Int))]) rfl rfl (blk_cells (Blk.new _ _ _)) (flatS_one _) um om (x4.trans (Ext.alloc _ _)).size ?_;intro E3 cE3 w5 ho5 hg5 hat5;have x5:=Ext.app (x4.trans (Ext.alloc _ _)) (OwnS.ext ho4 (Ext.alloc _ _)) hg5)|(at_builtin;refine wpList_app _ rfl _ _ _ rfl w.heap.size 207 iE _ 2 16 Tryz.underlying201 jE0 jE1 jE2 jE3 rfl om E xs.length cE (flatS xs) rfl (OwnS.ext HO.out (Ext.alloc _ _)) _ 1 1 (flatS [(lo,(i:Int))]) rfl rfl (blk_cells (Blk.new _ _ _)) (flatS_one _) um om (hXA.trans (Ext.alloc _ _)).size ?_;intro E2 cE2 w4 ho4 hg4 hat4;have x4:=Ext.app (hXA.trans (Ext.alloc _ _)) (OwnS.ext HO.out (Ext.alloc _ _)) hg4;have kk4:=(KpP.of_ext (p:=fun b=>E.map (·.block)=some b) (Ext.alloc wa (.cells #[.int .i64 lo,.int .i64 (i:Int)] 207))).trans (KpP.of_grown hg4);have b4:=kk4.blk b1 (own_blk HO.out b1 de);have q0:=b4.cell 0;have q1:=b4.cell 1;simp only[List.getElem?_toArray,List.getElem?_cons_succ,List.getElem?_cons_zero] at q0 q1))
       have HX2:Hid (xs++[(lo,(i:Int))]++[(hi2+1,(i:Int))]=evU top ls i (q+1)∧OwnE w5 w.heap.size E3 cE3 (xs++[(lo,(i:Int))]++[(hi2+1,(i:Int))])):=⟨HSE2.out,by unfold OwnE;rw[HL2.out,flatS_append,flatS_append];exact ho5⟩;clear ho4 hg4 hat4 ho5 hg5 hat5 HO;go_roundw
       case rel=>exact⟨q+1,E3,cE3,xs++[(lo,(i:Int))]++[(hi2+1,(i:Int))],by go_num,om,by rw[HL2.out],HX2,x5⟩
       case measure=>simp[intOf];omega
      ·have HSE2:Hid (xs++[(lo,(i:Int))]=evU top ls i (q+1)):=by
        have h:=HSE.out;simp only[evS,if_pos hlo,if_neg hhi,List.append_nil] at h;exact h
       have HL2:=lh (show(xs++[(lo,(i:Int))]).length=xs.length+1 by simp);clear HSE
       go_wp2_with ((at_builtin;refine wpList_app _ rfl _ _ _ rfl w.heap.size 207 iE _ 2 16 Tryz.underlying201 jE0 jE1 jE2 jE3 rfl om E xs.length cE (flatS xs) rfl (OwnS.ext HO.out (Ext.alloc _ _)) _ 1 1 (flatS [(lo,(i:Int))]) rfl rfl (blk_cells (Blk.new _ _ _)) (flatS_one _) um om (hXA.trans (Ext.alloc _ _)).size ?_;intro E2 cE2 w4 ho4 hg4 hat4;have x4:=Ext.app (hXA.trans (Ext.alloc _ _)) (OwnS.ext HO.out (Ext.alloc _ _)) hg4;have kk4:=(KpP.of_ext (p:=fun b=>E.map (·.block)=some b) (Ext.alloc wa (.cells #[.int .i64 lo,.int .i64 (i:Int)] 207))).trans (KpP.of_grown hg4);have b4:=kk4.blk b1 (own_blk HO.out b1 de);have q0:=b4.cell 0;have q1:=b4.cell 1;simp only[List.getElem?_toArray,List.getElem?_cons_succ,List.getElem?_cons_zero] at q0 q1))
       have HX2:Hid (xs++[(lo,(i:Int))]=evU top ls i (q+1)∧OwnE w4 w.heap.size E2 cE2 (xs++[(lo,(i:Int))])):=⟨HSE2.out,by unfold OwnE;rw[HL2.out,flatS_append];exact ho4⟩;clear ho4 hg4 hat4 HO;go_roundw
       case rel=>exact⟨q+1,E2,cE2,xs++[(lo,(i:Int))],by go_num,om,by rw[HL2.out],HX2,x4⟩
       case measure=>simp[intOf];omega
     ·have hhi:¬hi2+1≤top:=om;have HSE2:Hid (xs=evU top ls i (q+1)):=by
       have h:=HSE.out;simp only[evS,if_neg hlo,if_neg hhi,List.append_nil] at h;exact h
      have HX2:=lh (And.intro HSE2.out HO.out);clear HSE HSE2 HO
      go_wp2_with fail
      go_roundw
      case rel=>exact⟨q+1,E,cE,xs,by go_num,om,rfl,HX2,hXA⟩
      case measure=>simp[intOf];omega
    ·have hkI:¬(q:Int)<hl2.length:=om;have hke:q=hl2.length:=om;have HX4:=lh (show xs=evU top ls (i+1) 0∧OwnE wr w.heap.size E cE xs from⟨by rw[HX.out.1,hke];exact HNX.out,HX.out.2⟩);clear hke HX HSTP hgg
     go_wp2_with fail
     go_roundw
     case rel=>exact⟨i+1,E,cE,xs,by go_num,om,rfl,HX4,xk⟩
     case measure=>simp[intOf];omega
  ·have hiI:¬(i:Int)<ls.length:=om;have hie:i=ls.length:=om;have HXE:=lh (show xs=evs top (ls.map (·.l)) by rw[HX.out.1,hie,HEA.out]);have hxb:xs.length≤100000:=by have:=HBN.out i 0;rw[←HX.out.1] at this;omega
   have HSO:=lh (sortAnyE w.heap.size cE E xs (fun p hp=>((HOKE i 0).out p (by rw[←HX.out.1];exact hp)).1) wr HX.out.2 om);have HEB:=lh (show ∀b,E.map (·.block)=some b→w.heap.size≤b from fun b hb=>OwnS.row HX.out.2 b hb);clear HX hie
   go_wp2_with fail
   refine HSO.out.mono ?_;rintro e w2 ⟨rfl,m,hpm,hpw,hml,hm,hk2⟩;have x2:Ext w w2:=x1.kp hk2 (fun b hb=>HEB.out b hb);have HML:=lh hml;have HR:=lh (show(evs top (ls.map (·.l))).Perm m∧m.Pairwise (fun s t=>s.1≤t.1)∧OwnE w2 w.heap.size E cE m from⟨by rw[←HXE.out];exact hpm,hpw,hm⟩);clear hpm hpw hml hm hk2 HSO x1
   go_wp2_with fail
   go_ret
   exact⟨E,cE,m,by rw[HML.out];rfl,HR.out.1,HR.out.2.1,HR.out.2.2,x2⟩
end
end Go.Proofs.YtmocoldobnimfaaGreat
