/- Texts of this proof: G20 G22 G23 G21 G24 G26 P7 G27 G28 QA Q9 QB. -/
import Derived.Test.YtmocoldobnimfaaGreatMS18
import Derived.Shelf.SlSortCmp.NoneTotal
import Derived.ChangeKeysEq
import Derived.Laws.BitsAllLaws
set_option linter.all false
set_option maxRecDepth 100000
set_option maxHeartbeats 16000000
namespace Go.Proofs.YtmocoldobnimfaaGreat
section
open Go.RowKit
def evS (i:Nat)(top:Int)(s:Sp):List Sp:=(if s.1<=top then[(s.1,(i:Int))] else[])++(if s.2+1<=top then[(s.2+1,(i:Int))] else[])
def evL (top:Int)(i:Nat)(l:List Sp):List Sp:=l.flatMap (evS i top)
def evs (top:Int)(ls:List (List Sp)):List Sp:=(List.range ls.length).flatMap (fun q=>evL top q (ls.getD q []))
def evU (top:Int)(ls:List Hs)(i k:Nat):List Sp:=((List.range i).flatMap (fun q=>evL top q ((ls.map (·.l)).getD q [])))++evL top i (((ls.map (·.l)).getD i []).take k)
theorem yY (top:Int)(ls:List Hs)(i:Nat):evU top ls i 0=(List.range i).flatMap (fun q=>evL top q ((ls.map (·.l)).getD q [])):=by simp[evU,evL]
theorem qP {ls:List Hs}{i:Nat}(hi:i<ls.length):(ls.map (·.l)).getD i []=ls[i].l:=by simp[List.getD_eq_getElem?_getD,hi]
theorem Tj {top:Int}{ls:List Hs}{i:Nat}(hi:i<ls.length):evU top ls i ls[i].l.length=evU top ls (i+1) 0:=by
 rw[yY,List.range_succ,List.flatMap_append];unfold evU;rw[qP hi,List.take_length]
 congr 1
 simp only[List.flatMap_cons,List.flatMap_nil,List.append_nil];rw[qP hi]
theorem Tk {top:Int}{ls:List Hs}{i k:Nat}(hi:i<ls.length)(hk:k<ls[i].l.length):evU top ls i (k+1)=evU top ls i k++evS i top ls[i].l[k]:=by
 unfold evU;rw[qP hi,List.take_succ_eq_append_getElem hk];unfold evL;rw[List.flatMap_append,List.append_assoc]
 simp
theorem LO (top:Int)(ls:List Hs):evU top ls ls.length 0=evs top (ls.map (·.l)):=by
 rw[yY];unfold evs;rw[List.length_map]
theorem bL (i:Nat)(top:Int)(s:Sp):(evS i top s).length<=2:=by
 unfold evS;split<;>split<;>simp
theorem LP (top:Int)(i:Nat)(l:List Sp):(evL top i l).length<=2*l.length:=by
 unfold evL;induction l with
 | nil=>simp
 | cons s l ih=>
  have:=bL i top s;simp only[List.flatMap_cons,List.length_append,List.length_cons];omega
theorem fC {top:Int}{ls:List Hs}(hg:∀h∈ls,∀s∈h.l,QH s)(i k:Nat):∀p∈evU top ls i k,jP p/\p.1<=top/\0<=p.2/\p.2<=i:=by
 have key:∀q (l:List Sp),(∀s∈l,QH s)->∀p∈evL top q l,jP p/\p.1<=top/\p.2=q:=fun q l hl p hp=>by
  obtain⟨s,hs,hp⟩:=List.mem_flatMap.1 hp;have h:=hl s hs;unfold QH at h;unfold evS at hp;unfold jP;rcases List.mem_append.1 hp with hp|hp
  ·split at hp
   ·rename_i hc
    obtain rfl:=List.mem_singleton.1 hp;exact⟨⟨h.1,by simp only;omega⟩,hc,rfl⟩
   ·simp at hp
  ·split at hp
   ·rename_i hc
    obtain rfl:=List.mem_singleton.1 hp;exact⟨⟨by simp only;omega,by simp only;omega⟩,hc,rfl⟩
   ·simp at hp
 have hgd:∀q,∀s∈(ls.map (·.l)).getD q [],QH s:=fun q s hs=>by
  rcases Nat.lt_or_ge q ls.length with h|h
  ·rw[qP h] at hs;exact hg _ (List.getElem_mem h) s hs
  ·rw[List.getD_eq_getElem?_getD,List.getElem?_eq_none (by simpa using h)] at hs;simp at hs
 intro p hp;unfold evU at hp;rcases List.mem_append.1 hp with hp|hp
 ·obtain⟨q,hq,hp⟩:=List.mem_flatMap.1 hp;have hqi:=List.mem_range.1 hq;have:=key q _ (hgd q) p hp;exact⟨this.1,this.2.1,om,om⟩
 ·have:=key i _ (fun s hs=>hgd i s (List.mem_of_mem_take hs)) p hp;exact⟨this.1,this.2.1,om,om⟩
theorem Vj.some {w:World}{base c:Nat}{A:Option Addr}{l:List Sp}(h:Vj w base A c l):(A=none/\c=0/\l=[])\/∃g,A=some ⟨g,0,none⟩:=by
 rcases QQ.form h with⟨h1,h2,h3,_⟩|⟨g,cur,h1,_⟩
 ·exact .inl ⟨h1,h3,List.length_eq_zero_iff.1 h2⟩
 ·exact .inr ⟨g,h1⟩
theorem PY (p:Option Addr)(c:Nat)(fv:Value)(w:World):Calls Tryz.prog 156 #[.slice p 0 c,fv] w (fun e w'=>e=.returned (.tuple #[])/\w'=w):=by
 have h:=AnyF.slices_SortFunc_none Tryz.sortEnd p c fv w;change Calls Tryz.prog 156 _ _ _ at h;exact h
theorem Tv (base c:Nat)(A:Option Addr)(l:List Sp)(hg:∀s∈l,jP s)(w:World)(hl:Vj w base A c l)(hlen:l.length<=1000000) :
 Calls Tryz.prog 156 #[.slice A l.length c,.func (.func 157) #[] #[]] w (fun e w'=>e=.returned (.tuple #[])/\∃m:List Sp,l.Perm m/\m.Pairwise (fun s t=>s.1<=t.1)/\m.length=l.length/\Vj w' base A c m/\KpP (fun b=>A.map (·.block)=some b) w w'):=by
 rcases hl.some with⟨rfl,rfl,rfl⟩|⟨g,rfl⟩
 ·refine(PY none 0 _ w).mono ?_;rintro e w' ⟨rfl,rfl⟩;exact⟨rfl,[],List.Perm.refl _,List.Pairwise.nil,rfl,hl,KpP.refl _ _⟩
 ·refine(PK base g c l hg w hl hlen).mono ?_;rintro e w' ⟨rfl,m,h1,h2,h3,h4,h5⟩;exact⟨rfl,m,h1,h2,h3,h4,h5.mono (fun k hk=>by simp[hk])⟩
theorem MU (A:Option Addr)(c:Nat)(ls:List Hs)(top:Int)(w:World)(hl:LLS w A c ls)(hg:∀h∈ls,∀s∈h.l,QH s)(hlen:(ls.map (·.l)).flatten.length<=10000)(hnl:ls.length<=100000)(hbound:∀i k,(evU top ls i k).length<=100000) :
 Calls Tryz.prog 115 #[.slice A ls.length c,.int .i64 top] w (fun e w'=>∃(E:Option Addr) (cE:Nat) (m:List Sp),e=.returned (.slice E m.length cE)/\(evs top (ls.map (·.l))).Perm m/\m.Pairwise (fun s t=>s.1<=t.1)/\Vj w' w.heap.size E cE m/\Ext w w'):=by
 obtain⟨iE,jE0,jE1,jE2,jE3⟩:=info_parts eU;have hcap:=hl.len;have HEA:=lh (LO top ls);have HE0:=lh (yY top ls 0);have HOKE:=fun(i k:Nat)=>lh (fC (top:=top) hg i k);have HBN:=lh hbound;clear hbound;go_enter Tryz.func115,Tryz.ntmps115
 go_wp2_with fail
 go_loopw [5,12] (fun v5 v12 wr=>∃(i:Nat) (E:Option Addr) (cE:Nat) (xs:List Sp),v12=.int .i64 i/\i<=ls.length/\v5=.slice E xs.length cE/\Hid (xs=evU top ls i 0/\Vj wr w.heap.size E cE xs)/\Ext w wr) (fun _ v _=>ls.length-(intOf v).toNat)
 case atStart=>exact⟨0,none,0,[],rfl,om,rfl,⟨by rw[HE0.out];rfl,QQ.nil _ _ _ _⟩,Ext.rfl' _⟩
 case round=>
  obtain⟨i,E,cE,xs,rfl,hi,rfl,HX,x1⟩:=hrel;by_cases hlt:i<ls.length
  ·have hiI:(i:Int)<ls.length:=om;obtain⟨pb,po,rfl,g0⟩:=(hl.ext x1).get hlt;have hsl:=hl.sl _ (List.getElem_mem hlt);have hgg:=hg _ (List.getElem_mem hlt);have hsll:=hsl.len;have HNX:=lh (Tj (top:=top) hlt);have HSTP:=fun(k:Nat) (hk:k<ls[i].l.length)=>lh (Tk (top:=top) hlt hk);generalize ls[i]=hh at *;obtain⟨hA,hc,hl2⟩:=hh
   simp only at g0 hsl hgg hsll HNX HSTP
   go_wp2_with fail
   go_loopw [5,19] (fun v5 v19 wk=>∃(q:Nat) (E:Option Addr) (cE:Nat) (xs:List Sp),v19=.int .i64 q/\q<=hl2.length/\v5=.slice E xs.length cE/\Hid (xs=evU top ls i q/\Vj wk w.heap.size E cE xs)/\Ext w wk) (fun _ v _=>hl2.length-(intOf v).toNat)
   case atStart=>exact⟨0,E,cE,xs,rfl,om,rfl,HX,x1⟩
   case round=>
    clear HX x1;obtain⟨q,E,cE,xs,rfl,hq,rfl,HX,xk⟩:=hrel;by_cases hkl:q<hl2.length
    ·have hkI:(q:Int)<hl2.length:=om;obtain⟨sb,so,rfl,g1,g2⟩:=(hsl.ext xk).get hkl;have hgs:=hgg _ (List.getElem_mem hkl);have HS2:=HSTP q hkl;generalize hl2[q]=s at *;obtain⟨lo,hi2⟩:=s;have hgs':0<=lo/\lo<=hi2/\hi2<=1114111:=hgs
     simp only at g1 g2 HS2
     have hw1:IntKind.i64.wrap (hi2+1)=hi2+1:=wj;obtain⟨b1,xa⟩:=Yy wr 38 #[.int .i64 lo,.int .i64 hi2];obtain⟨p0,p1,_,_,pz⟩:=b1.c2
     go_upto_region 8 with fail
     obtain⟨gs,hgs2⟩:∃gs,gs=wr.heap.size:=⟨_,rfl⟩
     rw[<-hgs2] at b1 p0 p1 pz ⊢;generalize wr.alloc (.cells #[.int .i64 lo,.int .i64 hi2] 38)=wa at *;have hxb:xs.length<=100000:=by have:=HBN.out i q;rw[<-HX.out.1] at this;omega
     have HO:=lh (QQ.ext HX.out.2 xa);have hXA:=xk.trans xa;have HSE:=lh (show xs++evS i top (lo,hi2)=evU top ls i (q+1) by rw[HS2.out,HX.out.1]);clear HX HS2 HSTP hgs hgg hgs2 xa xk;by_cases hlo:lo<=top
     ·by_cases hhi:hi2+1<=top
      ·have HSE2:Hid (xs++[(lo,(i:Int))]++[(hi2+1,(i:Int))]=evU top ls i (q+1)):=by
        have h:=HSE.out;simp only[evS,if_pos hlo,if_pos hhi] at h
        show _=_
        rw[<-h,List.append_assoc]
       have HL2:=lh (show(xs++[(lo,(i:Int))]++[(hi2+1,(i:Int))]).length=xs.length+1+1 by simp);clear HSE
       go_wp2_with (first|(at_builtin;refine Qv _ rfl _ _ _ rfl w.heap.size 207 iE _ 2 16 Tryz.underlying201 jE0 jE1 jE2 jE3 rfl om E2 (xs.length+1) cE2 (Qz xs++Qz [(lo,(i:Int))]) rfl (QQ.ext ho4 (Ext.alloc _ _)) _ 1 1 (Qz [(hi2+1,(i:Int))]) rfl rfl (QC (Blk.new _ _ _)) (ZG _) um om (x4.trans (Ext.alloc _ _)).size ?_;intro E3 cE3 w5 ho5 hg5 hat5;have x5:=Ext.app (x4.trans (Ext.alloc _ _)) (QQ.ext ho4 (Ext.alloc _ _)) hg5)|(at_builtin;refine Qv _ rfl _ _ _ rfl w.heap.size 207 iE _ 2 16 Tryz.underlying201 jE0 jE1 jE2 jE3 rfl om E xs.length cE (Qz xs) rfl (QQ.ext HO.out (Ext.alloc _ _)) _ 1 1 (Qz [(lo,(i:Int))]) rfl rfl (QC (Blk.new _ _ _)) (ZG _) um om (hXA.trans (Ext.alloc _ _)).size ?_;intro E2 cE2 w4 ho4 hg4 hat4;have x4:=Ext.app (hXA.trans (Ext.alloc _ _)) (QQ.ext HO.out (Ext.alloc _ _)) hg4;have kk4:=(KpP.of_ext (p:=fun b=>E.map (·.block)=some b) (Ext.alloc wa (.cells #[.int .i64 lo,.int .i64 (i:Int)] 207))).trans (KpP.of_grown hg4);have b4:=kk4.blk b1 (QK HO.out b1 de);have q0:=b4.cell 0;have q1:=b4.cell 1;simp only[List.getElem?_toArray,List.getElem?_cons_succ,List.getElem?_cons_zero] at q0 q1))
       have HX2:Hid (xs++[(lo,(i:Int))]++[(hi2+1,(i:Int))]=evU top ls i (q+1)/\Vj w5 w.heap.size E3 cE3 (xs++[(lo,(i:Int))]++[(hi2+1,(i:Int))])):=⟨HSE2.out,by unfold Vj;rw[HL2.out,WL,WL];exact ho5⟩;clear ho4 hg4 hat4 ho5 hg5 hat5 HO;go_roundw
       case rel=>exact⟨q+1,E3,cE3,xs++[(lo,(i:Int))]++[(hi2+1,(i:Int))],by go_num,om,by rw[HL2.out],HX2,x5⟩
       case measure=>simp[intOf];omega
      ·have HSE2:Hid (xs++[(lo,(i:Int))]=evU top ls i (q+1)):=by
        have h:=HSE.out;simp only[evS,if_pos hlo,if_neg hhi,List.append_nil] at h;exact h
       have HL2:=lh (show(xs++[(lo,(i:Int))]).length=xs.length+1 by simp);clear HSE
       go_wp2_with ((at_builtin;refine Qv _ rfl _ _ _ rfl w.heap.size 207 iE _ 2 16 Tryz.underlying201 jE0 jE1 jE2 jE3 rfl om E xs.length cE (Qz xs) rfl (QQ.ext HO.out (Ext.alloc _ _)) _ 1 1 (Qz [(lo,(i:Int))]) rfl rfl (QC (Blk.new _ _ _)) (ZG _) um om (hXA.trans (Ext.alloc _ _)).size ?_;intro E2 cE2 w4 ho4 hg4 hat4;have x4:=Ext.app (hXA.trans (Ext.alloc _ _)) (QQ.ext HO.out (Ext.alloc _ _)) hg4;have kk4:=(KpP.of_ext (p:=fun b=>E.map (·.block)=some b) (Ext.alloc wa (.cells #[.int .i64 lo,.int .i64 (i:Int)] 207))).trans (KpP.of_grown hg4);have b4:=kk4.blk b1 (QK HO.out b1 de);have q0:=b4.cell 0;have q1:=b4.cell 1;simp only[List.getElem?_toArray,List.getElem?_cons_succ,List.getElem?_cons_zero] at q0 q1))
       have HX2:Hid (xs++[(lo,(i:Int))]=evU top ls i (q+1)/\Vj w4 w.heap.size E2 cE2 (xs++[(lo,(i:Int))])):=⟨HSE2.out,by unfold Vj;rw[HL2.out,WL];exact ho4⟩;clear ho4 hg4 hat4 HO;go_roundw
       case rel=>exact⟨q+1,E2,cE2,xs++[(lo,(i:Int))],by go_num,om,by rw[HL2.out],HX2,x4⟩
       case measure=>simp[intOf];omega
     ·have hhi:¬hi2+1<=top:=om;have HSE2:Hid (xs=evU top ls i (q+1)):=by
       have h:=HSE.out;simp only[evS,if_neg hlo,if_neg hhi,List.append_nil] at h;exact h
      have HX2:=lh (And.intro HSE2.out HO.out);clear HSE HSE2 HO
      go_wp2_with fail
      go_roundw
      case rel=>exact⟨q+1,E,cE,xs,by go_num,om,rfl,HX2,hXA⟩
      case measure=>simp[intOf];omega
    ·have hkI:¬(q:Int)<hl2.length:=om;have hke:q=hl2.length:=om;have HX4:=lh (show xs=evU top ls (i+1) 0/\Vj wr w.heap.size E cE xs from⟨by rw[HX.out.1,hke];exact HNX.out,HX.out.2⟩);clear hke HX HSTP hgg
     go_wp2_with fail
     go_roundw
     case rel=>exact⟨i+1,E,cE,xs,by go_num,om,rfl,HX4,xk⟩
     case measure=>simp[intOf];omega
  ·have hiI:¬(i:Int)<ls.length:=om;have hie:i=ls.length:=om;have HXE:=lh (show xs=evs top (ls.map (·.l)) by rw[HX.out.1,hie,HEA.out]);have hxb:xs.length<=100000:=by have:=HBN.out i 0;rw[<-HX.out.1] at this;omega
   have HSO:=lh (Tv w.heap.size cE E xs (fun p hp=>((HOKE i 0).out p (by rw[<-HX.out.1];exact hp)).1) wr HX.out.2 om);have HEB:=lh (show ∀b,E.map (·.block)=some b->w.heap.size<=b from fun b hb=>QQ.row HX.out.2 b hb);clear HX hie
   go_wp2_with fail
   refine HSO.out.mono ?_;rintro e w2 ⟨rfl,m,hpm,hpw,hml,hm,hk2⟩;have x2:Ext w w2:=x1.kp hk2 (fun b hb=>HEB.out b hb);have HML:=lh hml;have HR:=lh (show(evs top (ls.map (·.l))).Perm m/\m.Pairwise (fun s t=>s.1<=t.1)/\Vj w2 w.heap.size E cE m from⟨by rw[<-HXE.out];exact hpm,hpw,hm⟩);clear hpm hpw hml hm hk2 HSO x1
   go_wp2_with fail
   go_ret
   exact⟨E,cE,m,by rw[HML.out];rfl,HR.out.1,HR.out.2.1,HR.out.2.2,x2⟩
def ZS (ws:List Int)(f:Nat->Bool):Prop:=ws.length=16/\∀j,j<16->∃n:Nat,ws[j]? = some (n:Int)/\n<2 ^ 64/\∀r,r<64->n.testBit r=f (64*j+r)
theorem ZS.zero:ZS (List.replicate 16 0) (fun _=>false):=
 ⟨List.length_replicate,fun j hj=>⟨0,by rw[List.getElem?_replicate,if_pos hj];rfl,by decide,fun r _=>by simp⟩⟩
theorem ZS.toggle {ws:List Int}{f:Nat->Bool}(h:ZS ws f){q:Nat}(hq:q<1024){n:Nat}(hn:ws[q / 64]? = some (n:Int)) :
 ZS (ws.set (q / 64) ((n ^^^ 2 ^ (q % 64):Nat):Int)) (fun x=>if x=q then !f q else f x):=by
 refine⟨by rw[List.length_set];exact h.1,fun j hj=>?_⟩;by_cases hjq:j=q / 64
 ·subst hjq;obtain⟨n',h1,h2,h3⟩:=h.2 (q / 64) hj;rw[hn] at h1;injection h1 with h1
  have:n=n':=om;subst this;have hr:q % 64<64:=Nat.mod_lt _ de;refine⟨n ^^^ 2 ^ (q % 64),by rw[List.getElem?_set_self (by rw[h.1];exact hj)],Nat.xor_lt_two_pow h2 (Nat.pow_lt_pow_right de hr),fun r hr2=>?_⟩;rw[Nat.testBit_xor,h3 r hr2,Nat.testBit_two_pow];by_cases e:q % 64=r
  ·have e2:64*(q / 64)+r=q:=om;rw[e2];simp[e]
  ·have e2:¬64*(q / 64)+r=q:=om;simp[e,e2]
 ·obtain⟨n',h1,h2,h3⟩:=h.2 j hj;refine⟨n',by rw[List.getElem?_set_ne (fun e=>hjq e.symm)];exact h1,h2,fun r hr=>?_⟩;have:¬64*j+r=q:=om;rw[h3 r hr];simp only[if_neg this]
theorem ZS.inj {ws vs:List Int}{f g:Nat->Bool}(h:ZS ws f)(k:ZS vs g):ws=vs<->∀q,q<1024->f q=g q:=by
 constructor
 ·rintro rfl q hq;obtain⟨n,h1,_,h3⟩:=h.2 (q / 64) om;obtain⟨m,k1,_,k3⟩:=k.2 (q / 64) om;rw[h1] at k1;injection k1 with k1
  have:n=m:=om;subst this;have e:64*(q / 64)+q % 64=q:=om;have:=(h3 (q % 64) (Nat.mod_lt _ de)).symm.trans (k3 (q % 64) (Nat.mod_lt _ de))
  rwa [e] at this
 ·intro hfg;refine List.ext_getElem? (fun j=>?_);rcases Nat.lt_or_ge j 16 with hj|hj
  ·obtain⟨n,h1,h2,h3⟩:=h.2 j hj;obtain⟨m,k1,k2,k3⟩:=k.2 j hj;have:n=m:=Nat.eq_of_testBit_eq (fun r=>by
    rcases Nat.lt_or_ge r 64 with hr|hr
    ·rw[h3 r hr,k3 r hr,hfg _ om]
    ·rw[Nat.testBit_lt_two_pow (Nat.lt_of_lt_of_le h2 (Nat.pow_le_pow_right de hr)),Nat.testBit_lt_two_pow (Nat.lt_of_lt_of_le k2 (Nat.pow_le_pow_right de hr))])
   rw[h1,k1,this]
  ·rw[List.getElem?_eq_none (by rw[h.1];exact hj),List.getElem?_eq_none (by rw[k.1];exact hj)]
theorem ZS.congr {ws:List Int}{f g:Nat->Bool}(h:ZS ws f)(hfg:∀q,f q=g q):ZS ws g:=by
 have:f=g:=funext hfg
 rw[<-this];exact h
def par (es:List Sp)(q:Nat):Bool:=decide ((es.countP (fun p=>p.2 == (q:Int))) % 2=1)
theorem bN (q:Nat):par [] q=false:=rfl
theorem Tw (es:List Sp)(p:Sp)(q:Nat):par (es++[p]) q=if p.2=q then !par es q else par es q:=by
 unfold par;rw[List.countP_append];by_cases h:p.2=q
 ·rw[if_pos h];simp only[List.countP_cons,List.countP_nil,h,beq_self_eq_true,if_true];generalize List.countP (fun p=>p.2 == (q:Int)) es=n;rw[Bool.eq_iff_iff]
  simp
  omega
 ·rw[if_neg h];simp[List.countP_cons,h]
theorem Ty {es fs:List Sp}(h:es.Perm fs)(q:Nat):par es q=par fs q:=by
 unfold par;rw[h.countP_eq]
theorem M0 {P:Prop} (h:P:=by
 by_cases h3:s.2+1<=top
 ·rw[if_pos h3];simp[h1,h2]
 ·rw[if_neg h3];simp[h1,h2]):P:=h
theorem Tx (top e:Int)(q:Nat)(he:e<=top)(s:Sp)(hs:s.1<=s.2):((evS q top s).filter (fun p=>decide (p.1<=e))).countP (fun p=>p.2 == (q:Int))=(if s.1<=e then 1 else 0)+(if s.2+1<=e then 1 else 0):=by
 unfold evS;by_cases h1:s.1<=e
 ·by_cases h2:s.2+1<=e
  ·rw[if_pos om,if_pos om];simp[h1,h2]
  ·rw[if_pos om];exact M0
 ·have h2:¬s.2+1<=e:=om;by_cases h4:s.1<=top
  ·rw[if_pos h4];exact M0
  ·rw[if_neg h4];exact M0
theorem LR (top e:Int)(q:Nat)(he:e<=top):∀(l:List Sp),Kk l->(((evL top q l).filter (fun p=>decide (p.1<=e))).countP (fun p=>p.2 == (q:Int))) % 2=if has l e=true then 1 else 0
 | [],_=>by simp[evL,I9]
 | s::l,hc=>by
  have ih:=LR top e q he l hc.tail;have hs:=hc.1 s si;have hfar:has l e=true->s.2+2<=e:=fun h=>hc.far h;unfold evL at ih ⊢;rw[List.flatMap_cons,List.filter_append,List.countP_append,Tx top e q he s hs,FE];by_cases hl:has l e=true
  ·have:=hfar hl;rw[if_pos hl] at ih;rw[hl,Bool.or_true,if_pos rfl,if_pos om,if_pos om];omega
  ·rw[if_neg hl] at ih;have hlf:has l e=false:=by simpa using hl
   rw[hlf,Bool.or_false];by_cases h1:s.1<=e
   ·by_cases h2:e<=s.2
    ·rw[if_pos h1,if_neg om,if_pos (by simp[h1,h2])];omega
    ·rw[if_pos h1,if_pos om,if_neg (by simp[h2])];omega
   ·rw[if_neg h1,if_neg om,if_neg (by simp[h1])];omega
theorem Pq (top e:Int)(q i:Nat)(hqi:i≠q)(l:List Sp):((evL top i l).filter (fun p=>decide (p.1<=e))).countP (fun p=>p.2 == (q:Int))=0:=by
 rw[List.countP_eq_zero];intro p hp;obtain⟨hp,_⟩:=List.mem_filter.1 hp;unfold evL at hp;obtain⟨s,_,hp⟩:=List.mem_flatMap.1 hp;unfold evS at hp;have:p.2=(i:Int):=by
  rcases List.mem_append.1 hp with hp|hp
  ·split at hp
   ·obtain rfl:=List.mem_singleton.1 hp;rfl
   ·simp at hp
  ·split at hp
   ·obtain rfl:=List.mem_singleton.1 hp;rfl
   ·simp at hp
 rw[this]
 simp;omega
theorem bO (top e:Int)(he:e<=top)(ls:List (List Sp))(hc:∀a∈ls,Kk a)(q:Nat):par ((evs top ls).filter (fun p=>decide (p.1<=e))) q=(if q<ls.length then has (ls.getD q []) e else false):=by
 have key:∀n,n<=ls.length->((((List.range n).flatMap (fun i=>evL top i (ls.getD i []))).filter (fun p=>decide (p.1<=e))).countP (fun p=>p.2 == (q:Int))) % 2=if q<n/\has (ls.getD q []) e=true then 1 else 0:=by
  intro n;induction n with
  | zero=>intro _;simp
  | succ n ih=>
   intro hn;rw[List.range_succ,List.flatMap_append,List.filter_append,List.countP_append];have h1:=ih om;simp only[List.flatMap_cons,List.flatMap_nil,List.append_nil];by_cases hq:n=q
   ·subst hq;have h2:=LR top e n he (ls.getD n []) (by
     have:ls.getD n []=ls[n]:=by simp[List.getD_eq_getElem?_getD,show n<ls.length by omega]
     rw[this];exact hc _ (List.getElem_mem _))
    rw[if_neg om] at h1;by_cases hh:has (ls.getD n []) e=true
    ·rw[if_pos hh] at h2;rw[if_pos ⟨om,hh⟩];omega
    ·rw[if_neg hh] at h2;rw[if_neg (fun h=>hh h.2)];omega
   ·rw[Pq top e q n hq,Nat.add_zero,h1];have:(q<n+1)<->(q<n):=om;simp only[this]
 have h:=key ls.length (Nat.le_refl _);unfold par evs;by_cases hq:q<ls.length
 ·rw[if_pos hq]
  cases hh:has (ls.getD q []) e
  ·rw[if_neg (fun x=>by rw[hh] at x;cases x.2)] at h;rw[h];rfl
  ·rw[if_pos ⟨hq,hh⟩] at h;rw[h];rfl
 ·rw[if_neg hq];rw[if_neg (fun x=>hq x.1)] at h;rw[h];rfl
theorem wD {top:Int}{ls:List (List Sp)}{p:Sp}:p∈evs top ls<->∃q,∃h:q<ls.length,∃s∈ls[q],p.2=(q:Int)/\p.1<=top/\(p.1=s.1\/p.1=s.2+1):=by
 unfold evs evL evS;simp only[List.mem_flatMap,List.mem_range,List.mem_append];constructor
 ·rintro⟨q,hq,s,hs,hp⟩;have e:ls.getD q []=ls[q]:=by simp[List.getD_eq_getElem?_getD,hq]
  rw[e] at hs;refine⟨q,hq,s,hs,?_⟩;rcases hp with hp|hp
  ·split at hp
   ·obtain rfl:=List.mem_singleton.1 hp;exact⟨rfl,by assumption,.inl rfl⟩
   ·simp at hp
  ·split at hp
   ·obtain rfl:=List.mem_singleton.1 hp;exact⟨rfl,by assumption,.inr rfl⟩
   ·simp at hp
 ·rintro⟨q,hq,s,hs,h2,h1,h3⟩;have e:ls.getD q []=ls[q]:=by simp[List.getD_eq_getElem?_getD,hq]
  refine⟨q,hq,s,by rw[e];exact hs,?_⟩;obtain⟨a,b⟩:=p
  simp only at h1 h2 h3
  rcases h3 with h3|h3
  ·left;rw[if_pos om];simp[h2,h3]
  ·right;rw[if_pos om];simp[h2,h3]
structure vD (E:List Int)(m:List Sp)(top:Int):Prop where
 ends:Kv E top
 head:E.head? = some 0
 mem:∀p∈m,p.1∈E
 all:∀x∈E,x=0\/∃p∈m,p.1=x
 srt:m.Pairwise (fun s t=>s.1<=t.1)
theorem vD.of {top:Int}(ht:0<=top){ls:List (List Sp)}(hg:∀a∈ls,∀s∈a,QH s){m:List Sp}(hp:(evs top ls).Perm m)(hs:m.Pairwise (fun s t=>s.1<=t.1)):vD (QI top ls) m top:=by
 have hg2:∀s∈ls.flatten,0<=s.1/\s.1<=s.2:=fun s hs=>by
  obtain⟨a,ha,hs⟩:=List.mem_flatten.1 hs;have:=hg a ha s hs;unfold QH at this;omega
 have h:=jx ht hg2;refine⟨h.ends,h.head,fun p hpm=>?_,fun x hx=>?_,hs⟩
 ·obtain⟨q,hq,s,hs,_,h1,h2⟩:=wD.1 (hp.mem_iff.2 hpm);have hin:=h.inn s (List.mem_flatten.2 ⟨_,List.getElem_mem hq,hs⟩);rcases h2 with h2|h2
  ·rw[h2] at h1 ⊢;exact hin.1 h1
  ·rw[h2] at h1 ⊢;exact hin.2 h1
 ·rcases h.only x hx with h1|⟨s,hs,h1⟩
  ·exact .inl h1
  ·obtain⟨a,ha,hsa⟩:=List.mem_flatten.1 hs;obtain⟨q,hq,rfl⟩:=List.getElem_of_mem ha;exact .inr ⟨(x,(q:Int)),hp.mem_iff.1 (wD.2 ⟨q,hq,s,hsa,rfl,h.ends.le x hx,h1⟩),rfl⟩
def Cut (m pre rem:List Sp)(x:Int):Prop:=m=pre++rem/\(∀p∈pre,p.1<=x)/\∀p∈rem,x<p.1
theorem vD.next {E:List Int}{m pre rem:List Sp}{top:Int}(h:vD E m top){i:Nat}(hi:i<E.length)(hc:Cut m pre rem E[i]) :
 (if h:i+1<E.length then E[i+1]-1 else top)=(match rem with|[]=>top|p::_=>p.1-1):=by
 obtain⟨hm,hpre,hrem⟩:=hc;have hinc:=List.pairwise_iff_getElem.1 h.ends.inc;by_cases hn:i+1<E.length
 ·rw[dif_pos hn];have hgt:=hinc i (i+1) hi hn om;have h0:0<=E[i]:=by
   have he:E[0]'om=0:=by
    have:=h.head;rw[List.head?_eq_getElem?,List.getElem?_eq_getElem om] at this;injection this
   rcases Nat.eq_zero_or_pos i with rfl|hp
   ·omega
   ·have:=hinc 0 i om hi hp;omega
  rcases h.all E[i+1] (List.getElem_mem hn) with h1|⟨p,hp,h1⟩
  ·omega
  ·have hpr:p∈rem:=by
    rw[hm] at hp;rcases List.mem_append.1 hp with h2|h2
    ·have:=hpre p h2;omega
    ·exact h2
   cases rem with
   | nil=>simp at hpr
   | cons r rem=>
    simp only
    have hr:=hrem r si;have hrE:=h.mem r (by rw[hm];simp);obtain⟨j,hj,hje⟩:=List.getElem_of_mem hrE;have hle:r.1<=p.1:=by
     have hs:=h.srt;rw[hm] at hs;have h2:=(List.pairwise_append.1 hs).2.1;rcases List.mem_cons.1 hpr with rfl|h3
     ·exact Int.le_refl _
     ·exact(List.pairwise_cons.1 h2).1 p h3
    have hij:i<j:=by
     rcases Nat.lt_or_ge i j with h2|h2
     ·exact h2
     ·rcases Nat.lt_or_ge j i with h3|h3
      ·have:=hinc j i hj hi h3;omega
      ·have:i=j:=om;subst this;omega
    have:E[i+1]<=r.1:=by
     rcases Nat.lt_or_ge (i+1) j with h2|h2
     ·have:=hinc (i+1) j hn hj h2;omega
     ·have:j=i+1:=om;subst this;omega
    omega
 ·rw[dif_neg hn]
  cases rem with
  | nil=>rfl
  | cons r rem=>
   exfalso
   have hr:=hrem r si;obtain⟨j,hj,hje⟩:=List.getElem_of_mem (h.mem r (by rw[hm];simp));rcases Nat.lt_or_ge j i with h3|h3
   ·have:=hinc j i hj hi h3;omega
   ·have:j=i:=om;subst this;omega
theorem Cut.filter {m pre rem:List Sp}{x:Int}(h:Cut m pre rem x):m.filter (fun p=>decide (p.1<=x))=pre:=by
 obtain⟨hm,h1,h2⟩:=h;rw[hm,List.filter_append,List.filter_eq_self.2 (fun p hp=>by simpa using h1 p hp),List.filter_eq_nil_iff.2 (fun p hp=>by have:=h2 p hp;simp;omega),List.append_nil]
def vec (ls:List (List Sp))(x:Int):List Bool:=ls.map (fun a=>has a x)
def Qj (ls:List (List Sp))(E:List Int):Nat->List (List Bool)
 | 0=>[]
 | i+1=>if vec ls (E.getD i 0)∈Qj ls E i then Qj ls E i else Qj ls E i++[vec ls (E.getD i 0)]
def classes (ls:List (List Sp))(top:Int):List (List Sp):=(Qj ls (QI top ls) (QI top ls).length).map (fun v=>cls (QI top ls) top (fun x=>decide (vec ls x=v)))
theorem V1 (ls:List (List Sp))(E:List Int):∀i,(Qj ls E i).Nodup
 | 0=>List.nodup_nil
 | i+1=>by
  unfold Qj
  split
  ·exact V1 ls E i
  ·rename_i h
   refine List.nodup_append.2 ⟨V1 ls E i,by simp,fun a ha b hb=>?_⟩;obtain rfl:=List.mem_singleton.1 hb;rintro rfl;exact h ha
theorem Xz (ls:List (List Sp))(E:List Int):∀i,(Qj ls E i).length<=i
 | 0=>Nat.le_refl _
 | i+1=>by
  have:=Xz ls E i;unfold Qj
  split
  ·omega
  ·simp;omega
def ZU (ls:List (List Sp))(E:List Int)(top:Int)(v:List Bool)(i:Nat):List Sp:=(((ZZ E top).take i).filter (fun s=>decide (vec ls s.1=v))).foldl QU []
theorem yq (ls:List (List Sp))(E:List Int)(top:Int)(v:List Bool):ZU ls E top v E.length=cls E top (fun x=>decide (vec ls x=v)):=by
 unfold ZU;rw[List.take_of_length_le (by rw[XY];exact Nat.le_refl _)]
 rfl
theorem zj {ls:List (List Sp)}{E:List Int}{top:Int}{v:List Bool}{i:Nat}(hi:i<E.length) :
 ZU ls E top v (i+1)=if vec ls E[i]=v then QU (ZU ls E top v i) (E[i],if h:i+1<E.length then E[i+1]-1 else top) else ZU ls E top v i:=by
 unfold ZU;rw[List.take_succ_eq_append_getElem (by rw[XY];exact hi),zX hi,List.filter_append,List.foldl_append];by_cases h:vec ls E[i]=v<;>simp[h]
theorem Gv {ls:List (List Sp)}{E:List Int}{top:Int}{v:List Bool}:∀{i:Nat},i<=E.length->v∉Qj ls E i->ZU ls E top v i=[]
 | 0,_,_=>rfl
 | i+1,hi,h=>by
  have hi':i<E.length:=om;have hd:E.getD i 0=E[i]:=by simp[List.getD_eq_getElem?_getD,hi']
  unfold Qj at h;rw[hd] at h;have h2:v∉Qj ls E i:=fun hm=>by
   split at h
   ·exact h hm
   ·exact h (List.mem_append_left _ hm)
  have h3:vec ls E[i]≠v:=fun e=>by
   rw[e] at h
   split at h
   ·exact h (by assumption)
   ·exact h si
  rw[zj hi',if_neg h3];exact Gv om h2
abbrev K16:={ l:List Int // l.length=16 }
def VR (x:K16):Value:=.agg (x.1.map (Value.int .u64)).toArray
theorem CW:(Tryz.prog.info? 203).map (fun i=>(i.zero,i.size,i.bytes))=some (some (.int .u64 0),1,8):=by kernel_rfl
theorem Gw (xs:List Int)(i:Nat)(h:i<xs.length)(w:World):(part 203 (xs.map (Value.int .u64)).toArray (i*1)).run Tryz.prog w=.ok (.int .u64 xs[i]) w:=by
 unfold part;go_simp
theorem i8 (a b:Int)(n:Nat)(w:World):(Op.equalIn (n+1) 203 (.int .u64 a) (.int .u64 b)).run Tryz.prog w=.ok (a == b) w:=by
 have u3:=Tryz.underlying203;unfold Op.equalIn;go_simp
theorem Dx (n:Nat)(xs ys:List Int)(w:World):∀(is:List Nat),(∀i∈is,i<xs.length/\i<ys.length)->
 (Op.eqItems (n+1) 203 1 (xs.map (Value.int .u64)).toArray (ys.map (Value.int .u64)).toArray is).run Tryz.prog w=.ok (is.all (fun i=>xs.getD i 0 == ys.getD i 0)) w
 | [],_=>by simp[Op.eqItems]
 | i::is,h=>by
  obtain⟨h1,h2⟩:=h i si;have ih:=Dx n xs ys w is (fun j hj=>h j (by simp[hj]));unfold Op.eqItems;simp only[Sem.run_bind,Gw xs i h1,Gw ys i h2,i8,Result.andThen_ok];have e1:xs.getD i 0=xs[i]:=by simp[List.getD_eq_getElem?_getD,h1]
  have e2:ys.getD i 0=ys[i]:=by simp[List.getD_eq_getElem?_getD,h2]
  rw[List.all_cons,e1,e2];by_cases hc:xs[i]=ys[i]
  ·simp only[hc,beq_self_eq_true,Bool.not_true,Bool.false_eq_true,if_false,Bool.true_and];exact ih
  ·have:(xs[i] == ys[i])=false:=by simpa using hc
   simp[this]
theorem i9 (x y:K16)(w:World):(Op.equal 204 (VR x) (VR y)).run Tryz.prog w=.ok (decide (x=y)) w:=by
 obtain⟨i0,hi0,_⟩:=info_parts CW;have hu:Tryz.prog.underlying 204=some (.array 16 203):=by kernel_rfl
 have hc:Tryz.prog.cellsOf 203=1:=by kernel_rfl
 unfold Op.equal VR;rw[show Op.maxDepth=9999+1 from rfl,run_equalIn_array w 9999 _ _ hu hi0,hc,show(9999:Nat)=9998+1 from rfl,Dx 9998 x.1 y.1 w (List.range 16) (fun i hi=>by
  have:=List.mem_range.1 hi;have h1:=x.2;have h2:=y.2;omega)]
 congr 1
 rw[Bool.eq_iff_iff,List.all_eq_true,decide_eq_true_iff];constructor
 ·intro h;refine Subtype.ext (List.ext_getElem (by rw[x.2,y.2]) (fun i h1 h2=>?_));have:=h i (List.mem_range.2 (by have:=x.2;omega));simp only[beq_iff_eq] at this
  rwa [List.getD_eq_getElem?_getD,List.getD_eq_getElem?_getD,List.getElem?_eq_getElem h1,List.getElem?_eq_getElem h2] at this
 ·rintro rfl i _
  simp
theorem LT (e:Bool)(xs:List Int)(w:World):∀(is:List Nat),(∀i∈is,i<xs.length)->
 (forIn is PUnit.unit (fun i _=>do
  let k <-sizeOf 203
  let r <-part 203 (xs.map (Value.int .u64)).toArray (i*k)
  Instr.checkKey e 9999 203 r
  pure (ForInStep.yield PUnit.unit):Nat->PUnit->Sem (ForInStep PUnit))).run Tryz.prog w=.ok PUnit.unit w
 | [],_=>by simp
 | i::is,h=>by
  have u3:=Tryz.underlying203;have h1:=h i si;have ih:=LT e xs w is (fun j hj=>h j (by simp[hj]));obtain⟨i0,hi0,hz0,hz1,hz2⟩:=info_parts CW;have hsz:(sizeOf 203).run Tryz.prog w=.ok 1 w:=by
   simp[sizeOf,run_typeInfo w hi0,hz1]
  have hk:(Instr.checkKey e 9999 203 (.int .u64 xs[i])).run Tryz.prog w=.ok () w:=by
   rw[show(9999:Nat)=9998+1 from rfl];unfold Instr.checkKey;simp[Sem.run_bind,run_underlying u3]
  simp only[List.forIn_cons,Sem.run_bind,hsz,Result.andThen_ok,Gw xs i h1,hk,Sem.run_pure];exact ih
theorem FQ (n:Nat)(xs:List Int):Instr.sameBits (n+1) (.agg (xs.map (Value.int .u64)).toArray) (.agg (xs.map (Value.int .u64)).toArray)=true:=by
 simp only[Instr.sameBits,beq_self_eq_true,Bool.true_and];rw[List.all_eq_true];intro p hp;obtain⟨a,b⟩:=p;have:a=b/\a∈xs.map (Value.int .u64):=by
  have h1:∀(l:List Value) (a b:Value),(a,b)∈l.zip l->a=b/\a∈l:=by
   intro l;induction l with
   | nil=>intro a b h;simp at h
   | cons x l ih=>
    intro a b h;rw[List.zip_cons_cons] at h;rcases List.mem_cons.1 h with h|h
    ·injection h with h1 h2
     subst h1;subst h2;simp
    ·have:=ih a b h;exact⟨this.1,by simp[this.2]⟩
  exact h1 _ a b hp
 obtain⟨rfl,hm⟩:=this;obtain⟨z,_,rfl⟩:=List.mem_map.1 hm
 cases n<;>simp[Instr.sameBits]
theorem Pz:BV Tryz.prog 204 VR:=by
 refine ID (d:=.array 16 203) kr (fun x y=>by simp[VR,Instr.sameNow]) i9 (fun e x w=>?_) (fun x=>FQ 9999 x.1);obtain⟨i0,hi0,_⟩:=info_parts CW;have hu:Tryz.prog.underlying 204=some (.array 16 203):=by kernel_rfl
 have hc:Tryz.prog.cellsOf 203=1:=by kernel_rfl
 have h:=LT e x.1 w (List.range' 0 16) (fun i hi=>by
  have:=List.mem_range'.1 hi;have:=x.2;omega)
 unfold VR;rw[show(10000:Nat)=9999+1 from rfl];unfold Instr.checkKey;simp only[Sem.run_bind,run_underlying hu,Result.andThen_ok,Std.Legacy.Range.forIn_eq_forIn_range',Std.Legacy.Range.size,Nat.sub_zero,Nat.add_one_sub_one,Nat.div_one];rw[h]
 simp
noncomputable def JB:List (List Sp)->Int
 | []=>0
 | a::r=>if QG a=0 then JB r else QG a
theorem yz:∀{ls:List (List Sp)} {i:Nat} (hi:i<ls.length),(∀j (hj:j<ls.length),j<i->QG ls[j]=0)->QG ls[i]≠0->JB ls=QG ls[i]
 | a::r,0,_,_,h=>by
  have h':QG a≠0:=h;unfold JB;rw[if_neg h'];rfl
 | a::r,i+1,hi,h0,h=>by
  have ha:=h0 0 si om;simp only[List.getElem_cons_zero] at ha;unfold JB;rw[if_pos ha];exact yz (by simpa using hi) (fun j hj hji=>h0 (j+1) (by simpa using hj) om) h
theorem CZ:∀{ls:List (List Sp)},(∀j (hj:j<ls.length),QG ls[j]=0)->JB ls=0
 | [],_=>rfl
 | a::r,h=>by
  have ha:=h 0 si;simp only[List.getElem_cons_zero] at ha;unfold JB;rw[if_pos ha];exact CZ (fun j hj=>h (j+1) (by simpa using hj))
theorem Yw {a:List Sp}(h:QG a=0):OkL a/\a.length<=64:=by
 unfold QG at h;by_cases hk:OkL a
 ·rw[if_pos hk] at h;refine⟨hk,?_⟩;by_cases h64:64<a.length
  ·rw[if_pos h64] at h;omega
  ·omega
 ·rw[if_neg hk] at h;omega
theorem vF:∀{ls:List (List Sp)},JB ls=0->∀a∈ls,QG a=0
 | [],_,a,ha=>by simp at ha
 | b::r,h,a,ha=>by
  unfold JB at h;by_cases hb:QG b=0
  ·rw[if_pos hb] at h;rcases List.mem_cons.1 ha with rfl|ha
   ·exact hb
   ·exact vF h a ha
  ·rw[if_neg hb] at h;exact absurd h hb
noncomputable def W1 (ls:List (List Sp)) (top:Int):Int:=
 if JB ls≠0 then JB ls else if top<0\/1114111<top then 5 else if(classes ls top).any (fun a=>decide (64<a.length))=true then 4 else 0
def Gy (ls:List (List Sp))(top:Int)(w:World)(e:Ending)(w':World):Prop:=
 ∃(O:Option Addr) (cO:Nat) (hs:List Hs),e=.returned (.tuple #[.slice O hs.length cO,.int .i64 (W1 ls top)])/\LLS w' O cO hs/\hs.map (·.l)=(if W1 ls top=0 then classes ls top else[])/\Ext w w'
theorem LLS.nil (w:World):LLS w none 0 []:=⟨Nat.le_refl _,Nat.zero_le _,by simp,fun h=>absurd rfl h⟩
theorem SL.drop1 {w:World}{b o c:Nat}{p:Sp}{l:List Sp}(h:SL w (some ⟨b,o,none⟩) c (p::l)):SL w (some ⟨b,o+2,none⟩) (c-1) l:=by
 refine⟨by have:=h.le;simp at this;omega,by have:=h.cap;omega,fun s hs=>h.rng s (by simp[hs]),fun _=>?_⟩;obtain⟨b',o',he,hc⟩:=h.at_ si;injection he with he;injection he with e1 e2 _
 subst e1;subst e2;refine⟨b,o+2,rfl,fun i hi=>?_⟩;have:=hc (i+1) (by simpa using hi);have e:o+(i+1)*2=o+2+i*2:=om;rw[e] at this
 simpa using this
def QR (hs:List Hs):List Value:=hs.map fun h=>.slice h.A h.l.length h.c
theorem vG:(Tryz.prog.info? 23).map (fun i=>(i.zero,i.size,i.bytes))=some (some (.slice none 0 0),1,24):=by kernel_rfl
structure SO (w:World)(base:Nat)(O:Option Addr)(cO:Nat)(hs:List Hs):Prop where
 own:QQ w base 23 1 O hs.length cO (QR hs)
 each:∀h∈hs,WB w base h.A h.c h.l
 apart:∀i j (hi:i<hs.length) (hj:j<hs.length),i≠j->∀b,hs[i].A.map (·.block)=some b->hs[j].A.map (·.block)≠some b
namespace SO
variable {w w':World} {base cO:Nat} {O:Option Addr} {hs:List Hs}
theorem nil (w:World)(base:Nat):SO w base none 0 []:=⟨QQ.nil _ _ _ _,by simp,fun i j hi=>by simp at hi⟩
theorem ext (h:SO w base O cO hs)(x:Ext w w'):SO w' base O cO hs:=⟨QQ.ext h.own x,fun z hz=>(h.each z hz).ext x,h.apart⟩
theorem kp (h:SO w base O cO hs){g T:Nat}{cs:Array Value}(hb:Blk w g T cs)(hT:T≠23)(hT2:T≠38)(k:KpP (·=g) w w'):SO w' base O cO hs:=
 ⟨QQ.kp h.own k (fun b hA e=>QK h.own hb (fun e2=>hT e2.symm) (by rw[hA,e])),fun z hz=>(h.each z hz).kp k (fun b hA e=>QK (h.each z hz) hb (fun e2=>hT2 e2.symm) (by rw[hA,e])),h.apart⟩
theorem sl (h:SO w base O cO hs)(hg:∀z∈hs,∀s∈z.l,QH s):LLS w O cO hs:=by
 have hc:=QQ.caps h.own;refine⟨hc.1,by unfold maxLen;omega,fun z hz=>(h.each z hz).sl (hg z hz),fun hn=>?_⟩;obtain⟨b,o,hA,hcell⟩:=QQ.cells h.own (by intro e;exact hn (List.map_eq_nil_iff.1 e));refine⟨b,o,hA,fun i hi=>?_⟩;have:=hcell i (by simpa[QR] using hi)
 simpa[QR] using this
theorem add (h:SO w base O cO hs){O':Option Addr}{cO':Nat}(hg:w.grownBy w' (O.map (·.block)))(ho:QQ w' base 23 1 O' (hs.length+1) cO' (QR hs++[.slice none 0 0])):SO w' base O' cO' (hs++[⟨none,0,[]⟩]):=by
 have hk:=KpP.of_grown hg;refine⟨by rw[List.length_append];unfold QR at ho ⊢;rw[List.map_append];exact ho,fun z hz=>?_,fun i j hi hj hij b hb hb2=>?_⟩
 ·rcases List.mem_append.1 hz with hz|hz
  ·exact(h.each z hz).kp hk (fun b hA e=>qx (h.each z hz) h.own de hA e)
  ·obtain rfl:=List.mem_singleton.1 hz;exact WB.nil _ _
 ·rw[List.length_append,List.length_singleton] at hi hj;have hi':i<hs.length:=by
   rcases Nat.lt_or_ge i hs.length with hh|hh
   ·exact hh
   ·have:i=hs.length:=om;subst this;simp at hb
  have hj':j<hs.length:=by
   rcases Nat.lt_or_ge j hs.length with hh|hh
   ·exact hh
   ·have:j=hs.length:=om;subst this;simp at hb2
  rw[List.getElem_append_left hi'] at hb;rw[List.getElem_append_left hj'] at hb2;exact h.apart i j hi' hj' hij b hb hb2
theorem put (h:SO w base O cO hs){n:Nat}(hn:n<hs.length){A':Option Addr}{c':Nat}{l':List Sp}(k:KpP (fun b=>hs[n].A.map (·.block)=some b) w w')(ho:WB w' base A' c' l')
 (hat:A'.map (·.block)=hs[n].A.map (·.block)\/∃b,A'.map (·.block)=some b/\w.heap.size<=b) :
 ∃g,O=some ⟨g,0,none⟩/\base<=g/\w'.cell? ⟨g,n,none⟩=some (.slice hs[n].A hs[n].l.length hs[n].c)/\w'.frozen? ⟨g,n,none⟩=false/\SO (w'.setCell ⟨g,n,none⟩ (.slice A' l'.length c')) base O cO (hs.set n ⟨A',c',l'⟩):=by
 have hmem:=List.getElem_mem hn;have hO':=QQ.kp h.own k (fun b hA e=>qx (h.each _ hmem) h.own de e hA);have hfl:n<(QR hs).length:=by simpa[QR] using hn
 obtain⟨g,hOe,hgb,c1,z1,glt,st⟩:=QQ.store hO' hfl;have hset:(QR hs).set n (.slice A' l'.length c')=QR (hs.set n ⟨A',c',l'⟩):=by
  unfold QR;rw[List.map_set]
 have hst:=st (.slice A' l'.length c');rw[hset] at hst;have hgO:∀{A:Option Addr} {c:Nat} {l:List Sp},WB w' base A c l->A.map (·.block)≠some g:=fun{A c l} hp=>by
  intro e;exact qx hp hO' de e (by rw[hOe];rfl)
 refine⟨g,hOe,hgb,by rw[c1];simp[QR],z1,⟨by rw[List.length_set];exact hst,fun z hz=>?_,fun i j hi hj hij b hb hb2=>?_⟩⟩
 ·obtain⟨i,hi,rfl⟩:=List.getElem_of_mem hz;rw[List.length_set] at hi;rw[List.getElem_set]
  split
  ·exact QQ.far ho (hgO ho) _
  ·rename_i hne
   have hei:=h.each _ (List.getElem_mem hi);have:=hei.kp k (fun b hA e=>h.apart i n hi hn (fun x=>hne x.symm) b hA e);exact QQ.far this (hgO this) _
 ·rw[List.length_set] at hi hj;have hlt:∀q (hq:q<hs.length) b,hs[q].A.map (·.block)=some b->b<w.heap.size:=fun q hq b hb=>WB.blt (h.each _ (List.getElem_mem hq)) hb;rw[List.getElem_set] at hb hb2
  split at hb
  ·rename_i e1
   subst e1
   split at hb2
   ·rename_i e2;exact hij e2
   ·rename_i e2
    rcases hat with h1|⟨b',h1,h2⟩
    ·exact h.apart n j hn hj e2 b (h1.symm.trans hb) hb2
    ·have:b'=b:=by simpa using h1.symm.trans hb
     subst this;have:=hlt j hj b' hb2;omega
  ·rename_i e1
   split at hb2
   ·rename_i e2
    subst e2;rcases hat with h1|⟨b',h1,h2⟩
    ·exact h.apart i n hi hn (fun x=>e1 x.symm) b hb (h1.symm.trans hb2)
    ·have:b'=b:=by simpa using h1.symm.trans hb2
     subst this;have:=hlt i hi b' hb;omega
   ·exact h.apart i j hi hj hij b hb hb2
end SO
theorem fD {α:Type}:∀{l:List α},l.length=16->∃a0 a1 a2 a3 a4 a5 a6 a7 a8 a9 a10 a11 a12 a13 a14 a15,l=[a0,a1,a2,a3,a4,a5,a6,a7,a8,a9,a10,a11,a12,a13,a14,a15]:=by
 intro l h
 iterate 16(rcases l with _|⟨_,l⟩;· simp at h)
 simp only[List.length_cons] at h;obtain rfl:=List.length_eq_zero_iff.1 (by omega:l.length=0);exact⟨_,_,_,_,_,_,_,_,_,_,_,_,_,_,_,_,rfl⟩
theorem LU (ls:List (List Sp))(x:Int):(vec ls x).length=ls.length:=by unfold vec;simp
theorem vH (ls:List (List Sp))(E:List Int):∀i,∀v∈Qj ls E i,v.length=ls.length
 | 0,v,h=>by simp[Qj] at h
 | i+1,v,h=>by
  unfold Qj at h
  split at h
  ·exact vH ls E i v h
  ·rcases List.mem_append.1 h with h|h
   ·exact vH ls E i v h
   ·obtain rfl:=List.mem_singleton.1 h;exact LU _ _
theorem TB {ls:List (List Sp)}{x:Int}{q:Nat}:(vec ls x).getD q false=(if q<ls.length then has (ls.getD q []) x else false):=by
 unfold vec;by_cases h:q<ls.length
 ·simp[List.getD_eq_getElem?_getD,h]
 ·simp[List.getD_eq_getElem?_getD,h]
theorem TC {α β:Type}[DecidableEq α]{l:List (α×β)}{x:α}(h:∀p∈l,p.1≠x):at? l x=none:=by
 unfold at?;rw[List.find?_eq_none.2 (fun p hp hc=>h p hp (beq_iff_eq.1 hc))]
 rfl
theorem TD {α β:Type}[DecidableEq α]{l:List (α×β)}{x:α}{y:β}{p:α×β}(hp:p∈l)(hx:p.1=x)(h:∀q∈l,q.1=x->q.2=y):at? l x=some y:=by
 unfold at?
 cases hf:l.find? (fun p=>p.1 == x) with
 | none=>exact absurd (beq_iff_eq.2 hx) (List.find?_eq_none.1 hf p hp)
 | some q=>rw[Option.map_some,h q (List.mem_of_find?_eq_some hf) (beq_iff_eq.1 (show(q.1 == x)=true from by have:=List.find?_some (p:=fun(p:α×β)=>p.1 == x) hf;exact this))]
theorem bP {ents:List (K16×Int)}{K:List (List Bool)}{v:List Bool}{ws:List Int}{L:Nat}(hw:ws.length=16)(hr:ZS ws (fun q=>v.getD q false))(hL:L<=1024)(hv:v.length=L)(hK:∀k∈K,k.length=L)
 (hl:ents.length=K.length) (he:∀n (h:n<ents.length),ents[n].2=(n:Int)/\ZS ents[n].1.1 (fun q=>(K.getD n []).getD q false)) :
 (v∉K->at? ents ⟨ws,hw⟩=none)/\(∀n (hn:n<K.length),K.Nodup->K[n]=v->at? ents ⟨ws,hw⟩=some (n:Int)):=by
 have key:∀n (h:n<ents.length),ents[n].1=⟨ws,hw⟩<->K[n]'om=v:=by
  intro n h;have h1:=(he n h).2.inj hr;have hkn:K.getD n []=K[n]'om:=by simp[List.getD_eq_getElem?_getD,show n<K.length by omega]
  rw[hkn] at h1;rw[Subtype.ext_iff];refine h1.trans ⟨fun hq=>?_,fun e=>by rw[e];intros;rfl⟩;have hln:=hK _ (List.getElem_mem (show n<K.length by omega));refine List.ext_getElem om (fun q h2 h3=>?_);have:=hq q om
  simpa[List.getD_eq_getElem?_getD,h2,h3] using this
 constructor
 ·intro hn;refine TC (fun p hp hc=>?_);obtain⟨n,h,rfl⟩:=List.getElem_of_mem hp;exact hn (by rw[<-(key n h).1 hc];exact List.getElem_mem _)
 ·intro n hn hd hkn;refine TD (List.getElem_mem (show n<ents.length by omega)) ((key n om).2 hkn) (fun p hp hc=>?_);obtain⟨m,hm,rfl⟩:=List.getElem_of_mem hp;have h2:=(key m hm).1 hc;have h3:m=n:=(List.getElem_inj hd (h₀:=om) (h₁:=hn)).1 (h2.trans hkn.symm);subst h3;exact(he m hm).1
theorem TE {α β:Type}[DecidableEq α]{l:List (α×β)}{x:α}(h:at? l x=none)(v:β):zN l x v=l++[(x,v)]:=by
 unfold zN;have:l.any (fun p=>p.1 == x)=false:=by
  unfold at? at h;rw[Option.map_eq_none_iff,List.find?_eq_none] at h;rw[List.any_eq_false];exact h
 rw[this];simp
theorem DD {ls:List (List Sp)}{E:List Int}{top:Int}{v:List Bool}{i:Nat}(hE:Kv E top)(h0:E.head? = some 0)(ht:top<=1114111):∀s∈ZU ls E top v i,QH s:=by
 refine xV si (fun u hu=>?_);have hu2:=List.mem_of_mem_take (List.mem_filter.1 hu).1;have h8:=KG hE u hu2;have h10:0<=u.1:=by
  rcases E with _|⟨a,l⟩
  ·simp at h0
  ·obtain rfl:a=0:=by simpa using h0
   rcases List.mem_cons.1 h8.1 with e|e
   ·omega
   ·have:=(List.pairwise_cons.1 hE.inc).1 _ e;omega
 unfold QH;omega
theorem yj {E:List Int}{top:Int}{i:Nat}(hi:i<E.length)(hE:Kv E top)(h0:E.head? = some 0)(ht:top<=1114111):QH (E[i],if h:i+1<E.length then E[i+1]-1 else top):=by
 have hm:(E[i],if h:i+1<E.length then E[i+1]-1 else top)∈ZZ E top:=by
  rw[<-zX hi];exact List.getElem_mem _
 have h8:=KG hE _ hm;have h10:0<=E[i]:=by
  rcases E with _|⟨a,l⟩
  ·simp at h0
  ·obtain rfl:a=0:=by simpa using h0
   rcases List.mem_cons.1 h8.1 with e|e
   ·simp only at e;omega
   ·have:=(List.pairwise_cons.1 hE.inc).1 _ e
    simp only at this;omega
 unfold QH
 simp only at h8 ⊢
 omega
theorem Gx {ls:List (List Sp)}{E:List Int}{top:Int}{v:List Bool}{i:Nat}:(ZU ls E top v i).length<=i:=by
 have h1:=Aq (((ZZ E top).take i).filter (fun s=>decide (vec ls s.1=v))) [];have h2:=List.length_filter_le (fun s:Sp=>decide (vec ls s.1=v)) ((ZZ E top).take i);have h3:=List.length_take_le i (ZZ E top);unfold ZU;simp only[List.length_nil] at h1;omega
theorem jS {ls:List (List Sp)}{E:List Int}{i:Nat}(hi:i<E.length)(h:vec ls E[i]∈Qj ls E i):Qj ls E (i+1)=Qj ls E i:=by
 have hd:E.getD i 0=E[i]:=by simp[List.getD_eq_getElem?_getD,hi]
 rw[Qj,hd,if_pos h]
theorem jT {ls:List (List Sp)}{E:List Int}{i:Nat}(hi:i<E.length)(h:vec ls E[i]∉Qj ls E i):Qj ls E (i+1)=Qj ls E i++[vec ls E[i]]:=by
 have hd:E.getD i 0=E[i]:=by simp[List.getD_eq_getElem?_getD,hi]
 rw[Qj,hd,if_neg h]
theorem TF {ls:List (List Sp)}{E:List Int}{top:Int}{i n:Nat}{hs:List Hs}{A':Option Addr}{c':Nat}(hi:i<E.length)(hl:hs.length=(Qj ls E i).length)(hn:n<hs.length)
 (hk:(Qj ls E i)[n]'om=vec ls E[i]) (hc:∀k (h:k<hs.length),hs[k].l=ZU ls E top ((Qj ls E i).getD k []) i) :
 ∀k (h:k<(hs.set n ⟨A',c',QU (ZU ls E top (vec ls E[i]) i) (E[i],if h:i+1<E.length then E[i+1]-1 else top)⟩).length),(hs.set n ⟨A',c',QU (ZU ls E top (vec ls E[i]) i) (E[i],if h:i+1<E.length then E[i+1]-1 else top)⟩)[k].l=ZU ls E top ((Qj ls E (i+1)).getD k []) (i+1):=by
 intro k h;rw[List.length_set] at h;have hmem:vec ls E[i]∈Qj ls E i:=by rw[<-hk];exact List.getElem_mem _
 have hkd:(Qj ls E i).getD k []=(Qj ls E i)[k]'om:=by simp[List.getD_eq_getElem?_getD,show k<(Qj ls E i).length by omega]
 rw[jS hi hmem,zj hi,List.getElem_set,hkd];by_cases hkn:n=k
 ·subst hkn;rw[if_pos rfl,hk,if_pos rfl]
 ·rw[if_neg hkn,if_neg,hc k h,hkd];intro e;have:=(List.getElem_inj (V1 ls E i) (h₀:=om) (h₁:=om)).1 (hk.trans e);exact hkn this
theorem TG {ls:List (List Sp)}{E:List Int}{top:Int}{i:Nat}{hs:List Hs}{A':Option Addr}{c':Nat}(hi:i<E.length)(hl:hs.length=(Qj ls E i).length)
 (hk:vec ls E[i]∉Qj ls E i) (hc:∀k (h:k<hs.length),hs[k].l=ZU ls E top ((Qj ls E i).getD k []) i) :
 ∀k (h:k<(hs++[(⟨A',c',QU [] (E[i],if h:i+1<E.length then E[i+1]-1 else top)⟩:Hs)]).length),(hs++[(⟨A',c',QU [] (E[i],if h:i+1<E.length then E[i+1]-1 else top)⟩:Hs)])[k].l=ZU ls E top ((Qj ls E (i+1)).getD k []) (i+1):=by
 intro k h;rw[List.length_append,List.length_singleton] at h;rw[jT hi hk,zj hi];by_cases hkn:k<hs.length
 ·have hkd:(Qj ls E i).getD k []=(Qj ls E i)[k]'om:=by simp[List.getD_eq_getElem?_getD,show k<(Qj ls E i).length by omega]
  have hkd2:(Qj ls E i++[vec ls E[i]]).getD k []=(Qj ls E i)[k]'om:=by
   rw[List.getD_eq_getElem?_getD,List.getElem?_append_left om];simp[show k<(Qj ls E i).length by omega]
  rw[hkd2,List.getElem_append_left hkn,hc k hkn,hkd,if_neg];intro e;exact hk (by rw[e];exact List.getElem_mem _)
 ·have hke:k=hs.length:=om;subst hke;have hkd2:(Qj ls E i++[vec ls E[i]]).getD hs.length []=vec ls E[i]:=by
   rw[List.getD_eq_getElem?_getD,List.getElem?_append_right om,hl]
   simp
  rw[hkd2,if_pos rfl,Gv om hk]
  simp
theorem zv {l:List Sp}(h:OkL l):∀s∈l,QH s:=(KH h).2
theorem M6 {l:List Sp}(h:OkL l):Kk l:=(KH h).1
theorem DE {ls:List (List Sp)}{E:List Int}{k:Nat}:∀i,k<i->vec ls (E.getD k 0)∈Qj ls E i
 | 0,h=>absurd h (Nat.not_lt_zero _)
 | i+1,h=>by
  unfold Qj;by_cases hk:k=i
  ·subst hk
   split
   ·assumption
   ·simp
  ·have ih:=DE (ls:=ls) (E:=E) (k:=k) i om
   split
   ·exact ih
   ·exact List.mem_append_left _ ih
theorem TH {E:List Int}{i:Nat}(h:i<E.length):E.getD i 0=E[i]:=by simp[List.getD_eq_getElem?_getD,h]
structure J0 (LS:List (List Sp))(t:Int):Prop where
 ok:∀a∈LS,OkL a
 top:0<=t/\t<=1114111
namespace J0
variable {LS:List (List Sp)} {t:Int}
theorem eok (h:J0 LS t):V0 (QI t LS) t LS.flatten:=jx h.top.1 (fun s hs=>by
 obtain⟨a,ha,hs⟩:=List.mem_flatten.1 hs;have:=zv (h.ok a ha) s hs;unfold QH at this;omega)
theorem einn (h:J0 LS t):∀a∈LS,yM a (QI t LS) t:=fun a ha s hs=>h.eok.inn s (List.mem_flatten.2 ⟨a,ha,hs⟩)
theorem mem (h:J0 LS t)(v:List Bool)(x:Int):has (Go.Proofs.YtmocoldobnimfaaGreat.cls (QI t LS) t (fun y=>decide (vec LS y=v))) x=(decide (vec LS x=v)&&decide (0<=x/\x<=t)):=by
 have hs:yL (QI t LS) t (fun y=>decide (vec LS y=v)):=N6 h.einn (fun bs=>decide (bs=v));exact aM h.top.1 (fun s hs=>by
  obtain⟨a,ha,hs⟩:=List.mem_flatten.1 hs;have:=zv (h.ok a ha) s hs;unfold QH at this;omega) hs x
theorem canon (h:J0 LS t)(p:Int->Bool):Kk (Go.Proofs.YtmocoldobnimfaaGreat.cls (QI t LS) t p):=(kR h.eok.ends p).1
theorem okl (h:J0 LS t)(p:Int->Bool):OkL (Go.Proofs.YtmocoldobnimfaaGreat.cls (QI t LS) t p):=PJ (h.canon p) (yW h.eok.ends h.eok.head (by have:=h.top;omega) p)
theorem key (h:J0 LS t){x:Int}(hx:0<=x/\x<=t):∃j,∃hj:j<(QI t LS).length,(QI t LS)[j]<=x/\vec LS (QI t LS)[j]=vec LS x:=by
 obtain⟨s,hs,h1,h2⟩:=kP h.eok.ends 0 h.eok.head x hx.1 hx.2;obtain⟨h3,_,h5,h6⟩:=KG h.eok.ends s hs;obtain⟨j,hj,e⟩:=List.getElem_of_mem h3;refine⟨j,hj,om,?_⟩;rw[e];unfold vec;refine List.map_congr_left (fun a ha=>?_);exact(yN (h.einn a ha) s.1 x h1 hx.2 (fun y hy hh=>h6 y hy ⟨hh.1,om⟩)).symm
theorem key_in (h:J0 LS t){x:Int}(hx:0<=x/\x<=t):vec LS x∈Qj LS (QI t LS) (QI t LS).length:=by
 obtain⟨j,hj,_,e⟩:=h.key hx;have:=DE (ls:=LS) (E:=QI t LS) (k:=j) (QI t LS).length hj;rw[TH hj,e] at this;exact this
theorem len_keys:(classes LS t).length=(Qj LS (QI t LS) (QI t LS).length).length:=by unfold classes;simp
theorem get {i:Nat}(hi:i<(classes LS t).length):(classes LS t)[i]=Go.Proofs.YtmocoldobnimfaaGreat.cls (QI t LS) t (fun y=>decide (vec LS y=(Qj LS (QI t LS) (QI t LS).length)[i]'(by rw[<-len_keys];exact hi))):=by
 have hk:i<(Qj LS (QI t LS) (QI t LS).length).length:=by rw[<-len_keys];exact hi
 exact List.getElem_map (l:=Qj LS (QI t LS) (QI t LS).length) (fun v=>Go.Proofs.YtmocoldobnimfaaGreat.cls (QI t LS) t (fun y=>decide (vec LS y=v))) (h:=by rw[List.length_map];exact hk)
theorem cmem (h:J0 LS t){i:Nat}(hi:i<(classes LS t).length)(x:Int):has (classes LS t)[i] x=(decide (vec LS x=(Qj LS (QI t LS) (QI t LS).length)[i]'(by rw[<-len_keys];exact hi))&&decide (0<=x/\x<=t)):=by
 rw[J0.get hi,h.mem]
theorem cok (h:J0 LS t){i:Nat}(hi:i<(classes LS t).length):OkL (classes LS t)[i]:=by rw[J0.get hi];exact h.okl _
theorem clen {i:Nat}(hi:i<(classes LS t).length):(classes LS t)[i].length<=(QI t LS).length:=by
 rw[J0.get hi,<-yq];exact Gx
theorem keys_ne {i k:Nat}(hki:k<i)(hi:i<(classes LS t).length)(hk:k<(classes LS t).length):(Qj LS (QI t LS) (QI t LS).length)[i]'(by rw[<-len_keys];exact hi)≠(Qj LS (QI t LS) (QI t LS).length)[k]'(by rw[<-len_keys];exact hk):=by
 have hn:=V1 LS (QI t LS) (QI t LS).length;intro e;have:=List.pairwise_iff_getElem.1 hn k i (by rw[<-len_keys];exact hk) (by rw[<-len_keys];exact hi) hki;exact this e.symm
end J0
theorem bR {LS:List (List Sp)}{x y:Int}(h:vec LS x=vec LS y):∀a∈LS,has a x=has a y:=fun a ha=>List.map_inj_left.1 h a ha
def Ww (G:List Ins):List (List Sp):=(G.filter (fun i=>decide (i.op=1))).map (·.set)
theorem Ay {G:List Ins}{a:List Sp}:a∈Ww G<->∃i∈G,i.op=1/\i.set=a:=by
 unfold Ww;simp[List.mem_map,List.mem_filter,and_assoc]
theorem yk (runes:Bool):0<=Wj runes/\Wj runes<=1114111:=by
 cases runes<;>simp[Wj]
theorem GOk.set_ok {runes:Bool}{caps:Int}{G:List Ins}(h:GOk runes caps G){i:Ins}(hi:i∈G)(ho:i.op=1):QG i.set=0:=by
 obtain⟨k,hk,rfl⟩:=List.mem_iff_getElem.1 hi;obtain⟨_,_,_,_,h5⟩:=h.ins k hk;rcases h5 with h5|h5|h5|h5|h5|h5
 ·omega
 ·exact h5.2.1
 ·omega
 ·omega
 ·omega
 ·omega
theorem GOk.clOk {runes:Bool}{caps:Int}{G:List Ins}(h:GOk runes caps G):J0 (Ww G) (Wj runes):=
 ⟨fun a ha=>by
  obtain⟨i,hi,ho,rfl⟩:=Ay.1 ha;exact(Yw (h.set_ok hi ho)).1,yk runes⟩
def WC (runes:Bool)(G:List Ins):List (List Sp):=zJ runes (classes (Ww G) (Wj runes))
def WH (runes:Bool)(G:List Ins):List Int:=(WC runes G).map (JY runes)
def Zj (runes:Bool)(G:List Ins):List Int:=(WC runes G).map (zM runes)
theorem qR {runes:Bool}{G:List Ins}{c:List Sp}(h:c∈WC runes G):c∈classes (Ww G) (Wj runes)/\(QL c).any (Qy runes)=true:=by
 unfold WC zJ at h;rw[List.mem_filter] at h;exact h
theorem xX {runes:Bool}{caps:Int}{G:List Ins}(hG:GOk runes caps G){c:List Sp}(hc:c∈classes (Ww G) (Wj runes)){a b:Int}(ha:has c a=true)(hb:has c b=true)(l:St):QZ G l a=QZ G l b:=by
 obtain⟨i,hi,rfl⟩:=List.mem_iff_getElem.1 hc;rw[hG.clOk.cmem hi,Bool.and_eq_true,decide_eq_true_iff] at ha hb;have hv:=ha.1.trans hb.1.symm;exact IA (fun x hx ho=>bR hv _ (Ay.2 ⟨x,hx,ho,rfl⟩)) l
theorem yv {runes:Bool}{caps:Int}{G:List Ins}(hG:GOk runes caps G){c:List Sp}(hc:c∈classes (Ww G) (Wj runes)):∀s∈c,s.1<=s.2:=by
 obtain⟨i,hi,rfl⟩:=List.mem_iff_getElem.1 hc;intro s hs;exact(M6 (hG.clOk.cok hi)).1 s hs
theorem zw {runes:Bool}{caps:Int}{G:List Ins}(hG:GOk runes caps G){c:List Sp}(hc:c∈WC runes G)(l:St):QZ G l (JY runes c)=QZ G l (zM runes c):=by
 obtain⟨h1,h2⟩:=qR hc;exact xX hG h1 (vZ (yv hG h1) (BZ h2).1) (vZ (yv hG h1) (LK h2).1) l
theorem DF {runes:Bool}{caps:Int}{G:List Ins}(hG:GOk runes caps G){x:Int}(hx:Qy runes x=true):∃k,∃hk:k<(WC runes G).length,has (WC runes G)[k] x=true:=by
 have hr:0<=x/\x<=Wj runes:=by
  unfold Qy at hx;unfold Wj;cases runes
  ·simpa using hx
  ·simp only[if_true,Bool.or_eq_true,decide_eq_true_eq] at hx ⊢;omega
 obtain⟨i,hi,e⟩:=List.getElem_of_mem (hG.clOk.key_in hr);have hic:i<(classes (Ww G) (Wj runes)).length:=by rw[J0.len_keys];exact hi
 have hh:has (classes (Ww G) (Wj runes))[i] x=true:=by
  rw[hG.clOk.cmem hic,<-e,decide_eq_true rfl,decide_eq_true hr];rfl
 have hm:=List.getElem_mem hic;have hok:=hG.clOk.cok hic;generalize (classes (Ww G) (Wj runes))[i]=c at *;obtain⟨y,hy,hv⟩:=N9 (runes:=runes) (c:=c) (fun s hs=>by
  have h1:=zv hok s hs;unfold QH at h1;refine⟨h1.1,?_⟩;have h2:has c s.2=true:=ZD.2 ⟨s,hs,h1.2.1,Int.le_refl _⟩;obtain⟨j,hj,rfl⟩:=List.mem_iff_getElem.1 hm;rw[hG.clOk.cmem hj,Bool.and_eq_true,decide_eq_true_iff,decide_eq_true_iff] at h2;exact h2.2.2) hh hx
 have hk:c∈WC runes G:=List.mem_filter.2 ⟨hm,List.any_eq_true.2 ⟨y,hy,hv⟩⟩;obtain⟨k,hkl,rfl⟩:=List.mem_iff_getElem.1 hk;exact⟨k,hkl,hh⟩
theorem FW {runes:Bool}{caps:Int}{G:List Ins}(hG:GOk runes caps G):(classes (Ww G) (Wj runes)).Pairwise (fun a b=>∀x,has a x=true->has b x=true->False):=by
 rw[List.pairwise_iff_getElem];intro i j hi hj hij x h1 h2;rw[hG.clOk.cmem hi,Bool.and_eq_true,decide_eq_true_iff] at h1;rw[hG.clOk.cmem hj,Bool.and_eq_true,decide_eq_true_iff] at h2;exact J0.keys_ne hij hj hi (h2.1.symm.trans h1.1)
theorem M7 {runes:Bool}{caps:Int}{G:List Ins}(hG:GOk runes caps G)(x:Int)(k k':Nat)(hk:k<(WC runes G).length)(hk':k'<(WC runes G).length)(h1:has (WC runes G)[k] x=true)(h2:has (WC runes G)[k'] x=true):k=k':=by
 have hp:(WC runes G).Pairwise (fun a b=>∀x,has a x=true->has b x=true->False):=(FW hG).filter _;rw[List.pairwise_iff_getElem] at hp;rcases Nat.lt_trichotomy k k' with h|h|h
 ·exact(hp k k' hk hk' h x h1 h2).elim
 ·exact h
 ·exact(hp k' k hk' hk h x h2 h1).elim
def VS (G:List Ins)(cs:List Int):Option (List St):=expl (fun l=>cs.map (QZ G l)) 1030 0 (grow [] (QX G [0]))
theorem jU {runes:Bool}{caps:Int}{G:List Ins}(hG:GOk runes caps G):VS G (WH runes G)=VS G (Zj runes G):=by
 unfold VS;refine MJ (fun l=>?_) _ _ _;unfold WH Zj;rw[List.map_map,List.map_map];exact List.map_congr_left (fun c hc=>zw hG hc l)
open Classical in
noncomputable def ZW (runes:Bool) (caps:Int) (G:List Ins):Int:=
 if Vq runes caps G≠0 then Vq runes caps G else if W1 (Ww G) (Wj runes)≠0 then W1 (Ww G) (Wj runes) else
  match VS G (WH runes G) with|none=>4|some _=>0
def WJ (top:Int):List Sp->Int
 | []=>top
 | p::_=>p.1-1
structure SpI (wr:World)(base gW gM:Nat)(ls:List (List Sp))(E:List Int)(top:Int)(m:List Sp)(i:Nat)(x:Int)(pre rem:List Sp)(ws:List Int)(ents:List (K16×Int))(O:Option Addr)(cO:Nat)(hs:List Hs):Prop where
 cut:m=pre++rem/\(∀p∈pre,p.1<x)/\∀p∈rem,x<=p.1
 rep:ZS ws (par pre)
 blk:Blk wr gW 204 (ws.map (Value.int .u64)).toArray
 map:WX wr gM VR (Value.int .i64) ents
 elen:ents.length=(Qj ls E i).length
 keys:∀n (h:n<ents.length),ents[n].2=(n:Int)/\ZS ents[n].1.1 (fun q=>((Qj ls E i).getD n []).getD q false)
 out:SO wr base O cO hs
 hlen:hs.length=(Qj ls E i).length
 cls:∀n (h:n<hs.length),hs[n].l=ZU ls E top ((Qj ls E i).getD n []) i
theorem GA {E:List Int}{m pre rem:List Sp}{top:Int}{i:Nat}(h:vD E m top)(hi:i<E.length)(hc:Cut m pre rem E[i]):m=pre++rem/\(∀p∈pre,p.1<WJ top rem+1)/\∀p∈rem,WJ top rem+1<=p.1:=by
 obtain⟨hm,h1,h2⟩:=hc;refine⟨hm,fun p hp=>?_,fun p hp=>?_⟩
 ·cases rem with
  | nil=>
   have:=h.ends.le _ (h.mem p (by rw[hm];simp[hp]));simp only[WJ];omega
  | cons r rem=>
   have h3:=h1 p hp;have h4:=h2 r si;simp only[WJ];omega
 ·cases rem with
  | nil=>simp at hp
  | cons r rem=>
   have hs:=h.srt;rw[hm] at hs;have h3:=(List.pairwise_append.1 hs).2.1;simp only[WJ];rcases List.mem_cons.1 hp with rfl|h4
   ·omega
   ·have:=(List.pairwise_cons.1 h3).1 p h4;omega
theorem SpI.old {wr wA:World}{base gW gM i n g c' cO:Nat}{ls:List (List Sp)}{E:List Int}{top:Int}{m pre rem:List Sp}{ws:List Int}{ents:List (K16×Int)}{O A':Option Addr}{hs:List Hs}
 (hE:vD E m top) (hi:i<E.length) (hblk:Blk wr gW 204 (ws.map (Value.int .u64)).toArray) (hmap:WX wr gM VR (Value.int .i64) ents) (hso:SO wr base O cO hs)
 (hrep:ZS ws (par pre)) (hcut:Cut m pre rem E[i])
 (hel:ents.length=(Qj ls E i).length) (hek:∀n (h:n<ents.length),ents[n].2=(n:Int)/\ZS ents[n].1.1 (fun q=>((Qj ls E i).getD n []).getD q false))
 (hl:hs.length=(Qj ls E i).length) (hc:∀k (h:k<hs.length),hs[k].l=ZU ls E top ((Qj ls E i).getD k []) i)
 (hn:n<hs.length) (hk:(Qj ls E i)[n]'om=vec ls E[i]) (kA:KpP (fun b=>hs[n].A.map (·.block)=some b) wr wA) (hO:O=some ⟨g,0,none⟩) (v:Value)
 (hso2:SO (wA.setCell ⟨g,n,none⟩ v) base O cO (hs.set n ⟨A',c',QU (ZU ls E top (vec ls E[i]) i) (E[i],WJ top rem)⟩)) :
 SpI (wA.setCell ⟨g,n,none⟩ v) base gW gM ls E top m (i+1) (WJ top rem+1) pre rem ws ents O cO (hs.set n ⟨A',c',QU (ZU ls E top (vec ls E[i]) i) (E[i],WJ top rem)⟩):=by
 have hmem:vec ls E[i]∈Qj ls E i:=by rw[<-hk];exact List.getElem_mem _
 have hko:=jS hi hmem;have hnx:(if h:i+1<E.length then E[i+1]-1 else top)=WJ top rem:=(hE.next hi hcut).trans (by cases rem<;>rfl);have hst:=TF (A':=A') (c':=c') (top:=top) hi hl hn hk hc;rw[hnx] at hst;have hpn:=hso.each _ (List.getElem_mem hn);have hgo:O.map (·.block)=some g:=by rw[hO];rfl
 have kk:KpP (fun b=>hs[n].A.map (·.block)=some b\/b=g) wr (wA.setCell ⟨g,n,none⟩ v):=
  (KpP.mono kA (fun b hb=>.inl hb)).trans (KpP.set (p:=fun b=>hs[n].A.map (·.block)=some b\/b=g) (x:=⟨g,n,none⟩) (KpP.of_ext (Ext.rfl' _)) (.inl (.inr rfl)) v)
 have hbW:hs[n].A.map (·.block)≠some gW:=QK hpn hblk de;have hgW:gW≠g:=fun e=>QK hso.own hblk de (by rw[hgo,e]);have hgM:¬(hs[n].A.map (·.block)=some gM\/gM=g):=by
  rintro(e|e)
  ·obtain⟨_,cur,hh⟩:=QQ.blt hpn e;exact hmap.ne (g:=gM) (T:=_) (cs:=_) hh rfl
  ·obtain⟨_,cur,hh⟩:=QQ.blt hso.own hgo;exact hmap.ne (g:=g) (T:=_) (cs:=_) hh e
 refine⟨GA hE hi hcut,hrep,?_,hmap.kp kk hgM,by rw[hko];exact hel,by rw[hko];exact hek,hso2,by rw[hko,List.length_set];exact hl,hst⟩;unfold Blk at hblk ⊢;rw[kk.block gW (Blk.lt hblk) (fun e=>e.elim hbW hgW)];exact hblk
theorem SO.kpm {w w':World}{base cO g:Nat}{O:Option Addr}{hs:List Hs}{kv:K16->Value}{vv:Int->Value}{l:List (K16×Int)}(h:SO w base O cO hs)(hm:WX w g kv vv l)(k:KpP (·=g) w w'):SO w' base O cO hs:=
 ⟨QQ.kp h.own k (fun b hA e=>by
  obtain⟨_,cur,hh⟩:=QQ.blt h.own hA;exact hm.ne hh e.symm),fun z hz=>(h.each z hz).kp k (fun b hA e=>by
  obtain⟨_,cur,hh⟩:=QQ.blt (h.each z hz) hA;exact hm.ne hh e.symm),h.apart⟩
theorem lN {P:Program}{t k e:Nat}{w:World}{b:Nat}{kv:K16->Value}{vv:Int->Value}{l:List (K16×Int)}(h:WX w b kv vv l)(K:BV P k kv)(ht:P.underlying t=some (.map k e))(x:K16)(v:Int) :
 ∃w',(Instr.mapUpdate t (.map (some b)) (kv x) (vv v)).run P w=.ok () w'/\WX w' b kv vv (zN l x v)/\KpP (·=b) w w':=by
 obtain⟨o,h1,h2⟩:=h.put K ht x v;exact⟨_,h1,h2,xQ _ _ _⟩
theorem SpI.new {wS:World}{base gW gM i c' cO:Nat}{ls:List (List Sp)}{E:List Int}{top:Int}{m pre rem:List Sp}{ws:List Int}{ents:List (K16×Int)}{O A':Option Addr}{hs:List Hs}
 (hE:vD E m top) (hi:i<E.length) (hw:ws.length=16) (hblk:Blk wS gW 204 (ws.map (Value.int .u64)).toArray) (hmap:WX wS gM VR (Value.int .i64) (ents++[((⟨ws,hw⟩:K16),(hs.length:Int))]))
 (hrep:ZS ws (par pre)) (hrv:ZS ws (fun q=>(vec ls E[i]).getD q false)) (hcut:Cut m pre rem E[i])
 (hel:ents.length=(Qj ls E i).length) (hek:∀n (h:n<ents.length),ents[n].2=(n:Int)/\ZS ents[n].1.1 (fun q=>((Qj ls E i).getD n []).getD q false))
 (hl:hs.length=(Qj ls E i).length) (hc:∀k (h:k<hs.length),hs[k].l=ZU ls E top ((Qj ls E i).getD k []) i)
 (hk:vec ls E[i]∉Qj ls E i)
 (hso2:SO wS base O cO (hs++[(⟨A',c',QU [] (E[i],WJ top rem)⟩:Hs)])) :
 SpI wS base gW gM ls E top m (i+1) (WJ top rem+1) pre rem ws (ents++[((⟨ws,hw⟩:K16),(hs.length:Int))]) O cO (hs++[(⟨A',c',QU [] (E[i],WJ top rem)⟩:Hs)]):=by
 have hkn:=jT hi hk;have hnx:(if h:i+1<E.length then E[i+1]-1 else top)=WJ top rem:=(hE.next hi hcut).trans (by cases rem<;>rfl);have hst:=TG (A':=A') (c':=c') (top:=top) hi hl hk hc;rw[hnx] at hst;refine⟨GA hE hi hcut,hrep,hblk,hmap,by rw[hkn,List.length_append,List.length_append,hel];rfl,fun n h=>?_,hso2,by rw[hkn,List.length_append,List.length_append,hl];rfl,hst⟩;rw[hkn];rw[List.length_append,List.length_singleton] at h;by_cases hn:n<ents.length
 ·rw[List.getElem_append_left hn];have hd:(Qj ls E i++[vec ls E[i]]).getD n []=(Qj ls E i).getD n []:=by
   rw[List.getD_eq_getElem?_getD,List.getElem?_append_left om,<-List.getD_eq_getElem?_getD]
  rw[hd];exact hek n hn
 ·obtain rfl:n=ents.length:=om;have hd:(Qj ls E i++[vec ls E[i]]).getD ents.length []=vec ls E[i]:=by
   rw[List.getD_eq_getElem?_getD,List.getElem?_append_right om,hel]
   simp
  rw[hd,List.getElem_append_right (Nat.le_refl _)];simp only[Nat.sub_self,List.getElem_cons_zero];exact⟨by rw[hl,hel],hrv⟩
theorem SO.putNew {w w':World}{base cO:Nat}{O:Option Addr}{hs:List Hs}(h:SO w base O cO (hs++[(⟨none,0,[]⟩:Hs)])){A':Option Addr}{c':Nat}{l':List Sp}(k:KpP (fun b=>(none:Option Addr).map (·.block)=some b) w w')(ho:WB w' base A' c' l')
 (hat:A'.map (·.block)=(none:Option Addr).map (·.block)\/∃b,A'.map (·.block)=some b/\w.heap.size<=b) :
 ∃g,O=some ⟨g,0,none⟩/\base<=g/\w'.cell? ⟨g,hs.length,none⟩=some (.slice none 0 0)/\w'.frozen? ⟨g,hs.length,none⟩=false/\SO (w'.setCell ⟨g,hs.length,none⟩ (.slice A' l'.length c')) base O cO (hs++[(⟨A',c',l'⟩:Hs)]):=by
 have hn:hs.length<(hs++[(⟨none,0,[]⟩:Hs)]).length:=by simp
 have he:(hs++[(⟨none,0,[]⟩:Hs)])[hs.length]'hn=⟨none,0,[]⟩:=by simp
 obtain⟨g,h1,h2,h3,h4,h5⟩:=h.put (n:=hs.length) hn (w':=w') (A':=A') (c':=c') (l':=l') (by rw[he];exact k) ho (by rw[he];exact hat);rw[he] at h3;refine⟨g,h1,h2,h3,h4,?_⟩;rw[List.set_append_right _ _ (Nat.le_refl _)] at h5
 simpa using h5
theorem GB {wp w4 wA:World}{base gW gM eb cO cE n:Nat}{O E2:Option Addr}{hs hs2:List Hs}{ents:List (K16×Int)}{ws:List Int}{ob:Obj}(hmp:WX wp gM VR (Value.int .i64) ents)(hb:Blk wp gW 204 (ws.map (Value.int .u64)).toArray)(h1:SO wp base O cO hs)
 (hg:(wp.alloc ob).grownBy w4 (O.map (·.block))) (h4:SO w4 base E2 cE hs2) (hE:E2=some ⟨eb,0,none⟩) (kA:KpP (fun b=>(none:Option Addr).map (·.block)=some b) w4 wA) (v:Value) :
 WX (wA.setCell ⟨eb,n,none⟩ v) gM VR (Value.int .i64) ents/\Blk (wA.setCell ⟨eb,n,none⟩ v) gW 204 (ws.map (Value.int .u64)).toArray:=by
 have hnM:O.map (·.block)≠some gM:=fun e=>by
  obtain⟨_,cur,hh⟩:=QQ.blt h1.own e;exact hmp.ne hh rfl
 have hnW:=QK h1.own hb de;have k4:KpP (fun b=>O.map (·.block)=some b) wp w4:=(KpP.of_ext (Ext.alloc _ _)).trans (KpP.of_grown hg);have m4:=hmp.kp k4 hnM;have b4:Blk w4 gW 204 (ws.map (Value.int .u64)).toArray:=k4.blk hb hnW;have mA:=m4.kp kA si;have bA:Blk wA gW 204 (ws.map (Value.int .u64)).toArray:=kA.blk b4 si;have hEb:E2.map (·.block)=some eb:=by rw[hE];rfl
 have hM:gM≠eb:=fun e=>by
  obtain⟨_,cur,hh⟩:=QQ.blt h4.own hEb;exact m4.ne hh e
 have hW:gW≠eb:=fun e=>QK h4.own b4 de (by rw[hEb,e]);have kS:KpP (·=eb) wA (wA.setCell ⟨eb,n,none⟩ v):=KpP.set (p:=(·=eb)) (x:=⟨eb,n,none⟩) (KpP.of_ext (Ext.rfl' _)) (.inl rfl) v;exact⟨mA.kp kS hM,kS.blk bA hW⟩
theorem DH {ls:List (List Sp)}{E:List Int}{top:Int}{v:List Bool}{i:Nat}:∀j,i<=j->j<=E.length->(ZU ls E top v i).length<=(ZU ls E top v j).length
 | 0,h,_=>by
  obtain rfl:i=0:=om;exact Nat.le_refl _
 | j+1,h,hj=>by
  rcases Nat.lt_or_ge j i with h1|h1
  ·obtain rfl:i=j+1:=om;exact Nat.le_refl _
  ·have ih:=DH (ls:=ls) (E:=E) (top:=top) (v:=v) j h1 om;rw[zj (show j<E.length by omega)]
   split
   ·exact Nat.le_trans ih (jy _ _).1
   ·exact ih
theorem DM {ls:List (List Sp)}{E:List Int}{i n:Nat}(hn:n<(Qj ls E i).length):∀j,i<=j->n<(Qj ls E j).length/\(Qj ls E j).getD n []=(Qj ls E i).getD n []
 | 0,h=>by
  obtain rfl:i=0:=om;exact⟨hn,rfl⟩
 | j+1,h=>by
  rcases Nat.lt_or_ge j i with h1|h1
  ·obtain rfl:i=j+1:=om;exact⟨hn,rfl⟩
  ·obtain⟨h2,h3⟩:=DM hn j h1;rw[Qj]
   split
   ·exact⟨h2,h3⟩
   ·refine⟨by rw[List.length_append];omega,?_⟩
    rw[<-h3,List.getD_eq_getElem?_getD,List.getElem?_append_left h2,<-List.getD_eq_getElem?_getD]
theorem bT {LS:List (List Sp)}{E:List Int}{top:Int}{i n:Nat}(hC:classes LS top=(Qj LS E E.length).map (fun v=>cls E top (fun x=>decide (vec LS x=v))))
 (hS:W1 LS top=if(classes LS top).any (fun a=>decide (64<a.length))=true then 4 else 0) (hi:i<=E.length) (hn:n<(Qj LS E i).length) (h:64<(ZU LS E top ((Qj LS E i).getD n []) i).length):W1 LS top=4:=by
 rw[hS,if_pos];rw[List.any_eq_true,hC];obtain⟨h2,h3⟩:=DM hn E.length hi;have h4:(Qj LS E E.length)[n]=(Qj LS E i).getD n []:=by rw[<-h3];simp[List.getD_eq_getElem?_getD,h2]
 refine⟨_,List.mem_map.2 ⟨(Qj LS E E.length)[n],List.getElem_mem h2,rfl⟩,?_⟩
 rw[<-yq,h4,decide_eq_true_iff];exact Nat.lt_of_lt_of_le h (DH E.length hi (Nat.le_refl _))
theorem bU {LS:List (List Sp)}{E:List Int}{top:Int}{hs:List Hs}(hC:classes LS top=(Qj LS E E.length).map (fun v=>cls E top (fun x=>decide (vec LS x=v))))
 (hS:W1 LS top=if(classes LS top).any (fun a=>decide (64<a.length))=true then 4 else 0) (hl:hs.length=(Qj LS E E.length).length)
 (hc:∀k (h:k<hs.length),hs[k].l=ZU LS E top ((Qj LS E E.length).getD k []) E.length) (h64:∀k (h:k<hs.length),hs[k].l.length<=64):W1 LS top=0/\hs.map (·.l)=classes LS top:=by
 have hm:hs.map (·.l)=classes LS top:=by
  rw[hC];refine List.ext_getElem (by simpa using hl) (fun k h1 h2=>?_);have h3:k<hs.length:=by simpa using h1
  rw[List.getElem_map,List.getElem_map,hc k h3,yq];simp[List.getD_eq_getElem?_getD,show k<(Qj LS E E.length).length by omega]
 refine⟨?_,hm⟩;rw[hS,if_neg];rw[List.any_eq_true,<-hm];rintro⟨a,ha,h⟩;obtain⟨z,hz,rfl⟩:=List.mem_map.1 ha;obtain⟨k,hk,rfl⟩:=List.getElem_of_mem hz;have:=h64 k hk;rw[decide_eq_true_iff] at h;omega
theorem lQ:∀W:World,(zeroValue 3).run Tryz.prog W=.ok (.int .i64 0) W:=fun W=>by
 go_simp
def M8:Value->Nat
 | .slice _ n _=>n
 | _=>0
theorem Ax {ls:List (List Sp)}{top:Int}(h:JB ls≠0):W1 ls top=JB ls:=by unfold W1;rw[if_pos h]
theorem qv {ls:List (List Sp)}{top:Int}(h:JB ls=0)(ht:top<0\/1114111<top):W1 ls top=5:=by unfold W1;rw[if_neg (by simp[h]),if_pos ht]
theorem DN {ls:List (List Sp)}{top:Int}(h:JB ls=0)(ht:¬(top<0\/1114111<top)):W1 ls top=if(classes ls top).any (fun a=>decide (64<a.length))=true then 4 else 0:=by unfold W1;rw[if_neg (by simp[h]),if_neg ht]
theorem L4 {top:Int}{ls:List Hs}{i k:Nat}:(evU top ls i k).length<=2*((ls.map (·.l)).flatten.length):=by
 have h1:∀n,((List.range n).flatMap (fun q=>evL top q ((ls.map (·.l)).getD q []))).length<=2*(((ls.take n).map (·.l)).flatten).length:=by
  intro n;induction n with
  | zero=>simp
  | succ n ih=>
   rw[List.range_succ,List.flatMap_append,List.length_append];simp only[List.flatMap_cons,List.flatMap_nil,List.append_nil];have h2:=LP top n ((ls.map (·.l)).getD n []);rcases Nat.lt_or_ge n ls.length with hn|hn
   ·rw[qP hn] at h2 ⊢;rw[List.take_succ_eq_append_getElem hn,List.map_append,List.flatten_append,List.length_append];simp only[List.map_cons,List.map_nil,List.flatten_cons,List.flatten_nil,List.append_nil];omega
   ·have e:(ls.map (·.l)).getD n []=[]:=by rw[List.getD_eq_getElem?_getD,List.getElem?_eq_none (by simpa using hn)];rfl
    rw[e] at h2 ⊢;rw[List.take_of_length_le (show ls.length<=n+1 by omega)];rw[List.take_of_length_le hn] at ih;simp only[List.length_nil] at h2;omega
 have h2:=h1 i;have h3:=LP top i (((ls.map (·.l)).getD i []).take k);have h4:=O1 (ls:=ls) (i:=i) (k:=k);unfold evU;rw[List.length_append] at h4 ⊢;have e:((ls.map (·.l)).getD i []).take k=((ls[i]?.map (·.l)).getD []).take k:=by rw[List.getD_eq_getElem?_getD,List.getElem?_map]
 rw[e] at h3 ⊢;omega
theorem SL.of_own2 {w:World}{base c T:Nat}{A:Option Addr}{l:List Sp}(h:QQ w base T 2 A l.length c (Qz l))(hr:∀s∈l,S64 s):SL w A c l:=by
 have hc:=QQ.caps h;refine⟨hc.1,by unfold maxLen;omega,hr,fun hn=>?_⟩;obtain⟨b,o,hA,hcell⟩:=QQ.cells h (by intro e;have:=Q1 l;rw[e] at this;simp at this;exact hn (List.length_eq_zero_iff.1 om));have one:∀(i:Nat) (v:Value),(Qz l)[i]? = some v->w.cell? ⟨b,o+i,none⟩=some v:=fun i v hv=>by
  obtain⟨l1,e1⟩:=List.getElem?_eq_some_iff.1 hv;rw[hcell i l1,e1]
 exact⟨b,o,hA,fun i hi=>⟨one _ _ (ZH l i hi).1,by rw[Nat.add_assoc];exact one _ _ (ZH l i hi).2⟩⟩
theorem cQ (a r:Nat)(ha:a<2 ^ 64)(hr:r<64):Go.bits BinOp.xor IntKind.u64 (a:Int) (IntKind.u64.wrap (2 ^ r))=((a ^^^ 2 ^ r:Nat):Int):=by
 have h3:(2:Nat) ^ r<2 ^ 64:=Nat.pow_lt_pow_right de hr;have h4:((2 ^ r:Nat):Int)=(2:Int) ^ r:=by simp
 have h5:IntKind.u64.wrap ((2:Int) ^ r)=((2 ^ r:Nat):Int):=by
  rw[<-h4,IntKind.wrap_u64];generalize (2 ^ r:Nat)=pw at *;omega
 rw[h5];exact u64_xor_nat a (2 ^ r) om om
theorem SL.kp {w w':World}{A:Option Addr}{c:Nat}{l:List Sp}{p:Nat->Prop}(h:SL w A c l)(k:KpP p w w')(hn:l≠[]->∀b,A.map (·.block)=some b->¬p b):SL w' A c l:=by
 refine⟨h.le,h.cap,h.rng,fun hx=>?_⟩;obtain⟨b,o,rfl,hc⟩:=h.at_ hx;refine⟨b,o,rfl,fun i hi=>?_⟩;have h1:=hc i hi;have hb:=k.block b (World.block_lt_of_cell? _ _ h1.1) (hn hx b rfl);exact⟨by rw[World.cell?_of_block (w:=w) hb];exact h1.1,by rw[World.cell?_of_block (w:=w) hb];exact h1.2⟩
theorem fE {P:Prop} (h:P:=by
 have HS4:=lh (bT HCL.out HSE.out (i:=i+1) (n:=n) (by have:=HIB.out;omega) (by rw[<-HSP.out.hlen,List.length_set];exact hnh) (by
  rw[<-HSP.out.cls n (by rw[List.length_set];exact hnh),List.getElem_set_self]
  rw[<-HXE.out,<-HLN.out];simp only[WJ];omega))
 go_wp2_with fail
 exact bodyPost_ret (v:=.tuple #[.slice none 0 0,.int .i64 4]) (by simp[results,Tryz.results67,go_sem]) rfl (by rw[HLS.out];exact⟨none,0,[],by rw[HS4.out];rfl,LLS.nil _,by rw[HS4.out,if_neg de];rfl,X1.trans HX9.out⟩)):P:=h
theorem fF {P:Prop} (h:P:=by
 rw[List.getElem_append]
 split
 ·exact HEK.out.2.2.2.2 k (by assumption)
 ·have:=HZL.out;simp only[List.getElem_singleton];omega):P:=h
theorem fG {P:Prop} (h:P:=by
 clear HV0
 go_wp2_with fail
 exact bodyPost_ret (v:=.tuple #[.slice none 0 0,.int .i64 5]) (by simp[results,Tryz.results67,go_sem]) rfl ⟨none,0,[],by rw[HSP.out];rfl,LLS.nil _,by rw[HSP.out,if_neg de];rfl,x1⟩):P:=h
theorem fH {P:Prop} (h:P:=by
 have:=HSP.out
 rw[<-HXE.out] at this;simp only[WJ] at this ⊢;rw[hz.out] at this;exact this):P:=h
theorem fI {P:Prop} (h:P:=by
 rw[List.getElem_set]
 split
 ·simp only;omega
 ·exact HEK.out.2.2.2.2 k (by simpa using h)):P:=h
theorem I1 (A:Option Addr)(c:Nat)(ls:List Hs)(top:Int)(w:World)(hl:LLS w A c ls)(ht64:I64 top)(hnl:ls.length<=1024)(hlen:(ls.map (·.l)).flatten.length<=10000)(hE:(QI top (ls.map (·.l))).length<=1000) :
 Calls Tryz.prog 67 #[.slice A ls.length c,.int .i64 top] w (Gy (ls.map (·.l)) top w):=by
 have hcap:=hl.len;have hmm:=@run_makeMap Tryz.prog;have HVB:=fun(i:Nat) (hi:i<ls.length) (h0:∀j (hj:j<ls.length),j<i->QG ls[j].l=0) (h:QG ls[i].l≠0)=>lh (show JB (ls.map (·.l))=QG ls[i].l by
  have:=yz (ls:=ls.map (·.l)) (i:=i) (by simpa using hi) (fun j hj hji=>by simpa using h0 j (by simpa using hj) hji) (by simpa using h)
  simpa using this)
 have HVO:=fun(h0:∀j (hj:j<ls.length),QG ls[j].l=0)=>lh (show JB (ls.map (·.l))=0 from CZ (fun j hj=>by simpa using h0 j (by simpa using hj)));go_enter Tryz.func67,Tryz.ntmps67
 go_wp2_with fail
 go_loopw [19] (fun v wr=>∃i:Nat,v=.int .i64 i/\i<=ls.length/\Hid (∀j (hj:j<ls.length),j<i->QG ls[j].l=0)/\Ext w wr) (fun v _=>ls.length-(intOf v).toNat)
 case atStart=>exact⟨0,rfl,om,fun j _ hj=>absurd hj (Nat.not_lt_zero _),Ext.rfl' _⟩
 case round=>
  obtain⟨i,rfl,hi,HI,x1⟩:=hrel;by_cases hlt:i<ls.length
  ·have hiI:(i:Int)<ls.length:=om;obtain⟨pb,po,rfl,g0⟩:=(hl.ext x1).get hlt;have hsl:=(hl.sl _ (List.getElem_mem hlt)).ext x1;have HV:=fun(W':World) (x:Ext wr W')=>lh (Xy _ _ _ W' (hsl.ext x));have HI2:=lh (show QG ls[i].l=0->∀j (hj:j<ls.length),j<i+1->QG ls[j].l=0 from fun h j hj hji=>by
    rcases Nat.lt_or_ge j i with h1|h1
    ·exact HI.out j hj h1
    ·have:j=i:=om;subst this;exact h)
   have HB:=HVB i hlt HI.out;by_cases hv:QG ls[i].l=0
   ·have HI3:=lh (HI2.out hv);rw[hv] at HV;generalize ls[i]=hh at *;obtain⟨hA,hc,hl2⟩:=hh
    simp only at g0 HV
    clear HI2 HB HVB HVO HI
    go_wp2_with fail
    refine(HV _ (Ext.rfl' _)).out.mono ?_;rintro e w2 ⟨rfl,x2⟩;have x3:=x1.trans x2;clear HV g0 hsl
    go_wp2_with fail
    go_roundw
    case rel=>exact⟨i+1,by go_num,om,HI3,x3⟩
    case measure=>simp[intOf];omega
   ·have HB2:=HB hv;have HSP:=lh (show W1 (ls.map (·.l)) top=QG ls[i].l by rw[Ax (by rw[HB2.out];exact hv),HB2.out]);generalize hve:QG ls[i].l=ve at *;have hvb:(ve != 0)=true:=by simpa using hv
    clear hve HB HB2 HI2 HVB HVO HI;generalize ls[i]=hh at *;obtain⟨hA,hc,hl2⟩:=hh
    simp only at g0 HV
    go_wp2_with fail
    refine(HV _ (Ext.rfl' _)).out.mono ?_;rintro e w2 ⟨rfl,x2⟩;have x3:=x1.trans x2;clear HV g0 hsl
    go_wp2_with fail
    exact bodyPost_ret (v:=.tuple #[.slice none 0 0,.int .i64 ve]) (by simp[results,Tryz.results67,go_sem]) rfl ⟨none,0,[],by rw[HSP.out];rfl,LLS.nil _,by rw[HSP.out,if_neg hv];rfl,x3⟩
  ·have hiI:¬(i:Int)<ls.length:=om;have HV0:=HVO (fun j hj=>HI.out j hj om);clear HI HVO HVB;by_cases ht:top<0
   ·have HSP:=lh (qv HV0.out (.inl ht));exact fG
   ·by_cases ht2:1114111<top
    ·have HSP:=lh (qv HV0.out (.inr ht2));exact fG
    ·have HSE:=lh (DN HV0.out (show ¬(top<0\/1114111<top) by omega));have HVA:=lh (show ∀h∈ls,OkL h.l from fun h hh=>(Yw (vF HV0.out _ (List.mem_map_of_mem hh))).1);have hn1:¬(1024:Int)<ls.length:=om;have HEN:=lh (MU A c ls top wr (hl.ext x1) (fun h hh=>(KH (HVA.out h hh)).2) om om (fun i k=>by have:=L4 (top:=top) (ls:=ls) (i:=i) (k:=k);omega));clear HV0
     go_wp2_with fail
     refine HEN.out.mono ?_;rintro e w2 ⟨RA,rc,m,rfl,hpm,hpw,hE2,x2⟩;clear HEN;have hm64:∀s∈m,S64 s:=fun s hs=>by
      obtain⟨q,hq,t,ht3,h4,h5,h6⟩:=wD.1 (hpm.mem_iff.2 hs);have hq1:q<ls.length:=by simpa using hq
      have hgt:=(KH (HVA.out ls[q] (List.getElem_mem hq1))).2 t (by simpa using ht3);unfold QH at hgt;have hq':q<1024:=by simp at hq;omega
      exact⟨by unfold I64;omega,by unfold I64;omega⟩
     have HRD:=lh (SL.of_own2 hE2 hm64);have HEV:=lh (vD.of om (fun a ha s hs=>by
      obtain⟨h,hh,rfl⟩:=List.mem_map.1 ha;exact(KH (HVA.out h hh)).2 s hs) hpm hpw)
     have HPH:=lh (show ∀e,e<=top->∀q,par (m.filter (fun p=>decide (p.1<=e))) q=(if q<(ls.map (·.l)).length then has ((ls.map (·.l)).getD q []) e else false) from fun e he q=>by
      rw[<-bO top e he (ls.map (·.l)) (fun a ha=>by
       obtain⟨h,hh,rfl⟩:=List.mem_map.1 ha;exact(KH (HVA.out h hh)).1) q]
      exact(Ty (hpm.filter _) q).symm)
     have HSM:=lh (show ∀p∈m,0<=p.2/\p.2<1024/\0<=p.1/\p.1<=top from fun p hp=>by
      obtain⟨q,hq,t,ht3,h4,h5,h6⟩:=wD.1 (hpm.mem_iff.2 hp);have hq1:q<ls.length:=by simpa using hq
      have hgt:=(KH (HVA.out ls[q] (List.getElem_mem hq1))).2 t (by simpa using ht3);unfold QH at hgt;have hq':q<1024:=by simp at hq;omega
      omega)
     have hmlen:m.length<=20000:=by
      have h1:=hpm.length_eq;have h2:=L4 (top:=top) (ls:=ls) (i:=ls.length) (k:=0);rw[LO] at h2;omega
     have hELN:=hE;have HEG:=lh (show ∀v,∀s∈cls (QI top (ls.map (·.l))) top v,QH s from yW HEV.out.ends HEV.out.head om);have HCL:Hid (classes (ls.map (·.l)) top=(Qj (ls.map (·.l)) (QI top (ls.map (·.l))) (QI top (ls.map (·.l))).length).map (fun v=>cls (QI top (ls.map (·.l))) top (fun x=>decide (vec (ls.map (·.l)) x=v)))):=rfl;have hlsl:(ls.map (·.l)).length<=1024:=by simpa using hnl
     generalize hLS:ls.map (·.l)=LS at *;have HLS:=lh hLS;clear hLS;generalize QI top LS=E at *;have bW:=Blk.new w2 204 ((List.replicate 16 (0:Int)).map (Value.int .u64)).toArray;have eW:=Ext.alloc w2 (.cells ((List.replicate 16 (0:Int)).map (Value.int .u64)).toArray 204);have mM:=WX.made (w2.alloc (.cells ((List.replicate 16 (0:Int)).map (Value.int .u64)).toArray 204)) VR (Value.int .i64);have eM:=Ext.alloc (w2.alloc (.cells ((List.replicate 16 (0:Int)).map (Value.int .u64)).toArray 204)) (.map #[] 0);clear hpm hpw hE2 hm64
     go_upto_region 15 with fail
     have hs1:(w2.alloc (.cells ((List.replicate 16 (0:Int)).map (Value.int .u64)).toArray 204)).heap.size=w2.heap.size+1:=by simp
     rw[hs1] at mM;have bW2:=bW.ext eM;have X2:=eW.trans eM;have hRD:=HRD.out.ext X2;have X1:=x1.trans x2;change Blk ((w2.alloc (.cells #[.int .u64 0,.int .u64 0,.int .u64 0,.int .u64 0,.int .u64 0,.int .u64 0,.int .u64 0,.int .u64 0,.int .u64 0,.int .u64 0,.int .u64 0,.int .u64 0,.int .u64 0,.int .u64 0,.int .u64 0,.int .u64 0] 204)).alloc (.map #[] 0)) _ _ _ at bW2;change WX ((w2.alloc (.cells #[.int .u64 0,.int .u64 0,.int .u64 0,.int .u64 0,.int .u64 0,.int .u64 0,.int .u64 0,.int .u64 0,.int .u64 0,.int .u64 0,.int .u64 0,.int .u64 0,.int .u64 0,.int .u64 0,.int .u64 0,.int .u64 0] 204)).alloc (.map #[] 0)) _ _ _ _ at mM;change SL ((w2.alloc (.cells #[.int .u64 0,.int .u64 0,.int .u64 0,.int .u64 0,.int .u64 0,.int .u64 0,.int .u64 0,.int .u64 0,.int .u64 0,.int .u64 0,.int .u64 0,.int .u64 0,.int .u64 0,.int .u64 0,.int .u64 0,.int .u64 0] 204)).alloc (.map #[] 0)) _ _ _ at hRD;change Ext _ ((w2.alloc (.cells #[.int .u64 0,.int .u64 0,.int .u64 0,.int .u64 0,.int .u64 0,.int .u64 0,.int .u64 0,.int .u64 0,.int .u64 0,.int .u64 0,.int .u64 0,.int .u64 0,.int .u64 0,.int .u64 0,.int .u64 0,.int .u64 0] 204)).alloc (.map #[] 0)) at X2;generalize (w2.alloc (.cells #[.int .u64 0,.int .u64 0,.int .u64 0,.int .u64 0,.int .u64 0,.int .u64 0,.int .u64 0,.int .u64 0,.int .u64 0,.int .u64 0,.int .u64 0,.int .u64 0,.int .u64 0,.int .u64 0,.int .u64 0,.int .u64 0] 204)).alloc (.map #[] 0)=w3 at *;clear hs1 bW eW eM x1 x2 hmm;have HI0:Hid (SpI w3 w2.heap.size w2.heap.size (w2.heap.size+1) LS E top m 0 0 [] m (List.replicate 16 0) [] none 0 []):=⟨⟨rfl,by simp,fun p hp=>(HSM.out p hp).2.2.1⟩,ZS.zero.congr (fun q=>bN q),bW2,mM,rfl,fun n h=>by simp at h,SO.nil _ _,rfl,fun n h=>by simp at h⟩
     have HE0:=lh (show 0<E.length/\∀h:0<E.length,(0:Int)=E[0] from by
      have h:=HEV.out.head;rw[List.head?_eq_getElem?] at h;have hl:0<E.length:=by
       rcases Nat.eq_zero_or_pos E.length with h0|h0
       ·rw[List.getElem?_eq_none om] at h;cases h
       ·exact h0
      refine⟨hl,fun _=>?_⟩;rw[List.getElem?_eq_getElem hl] at h;injection h with h
      exact h.symm)
     go_wp2_with fail
     go_loopw [9,12,13] (fun v9 v12 v13 wr=>∃(i:Nat) (x:Int) (pre rem:List Sp) (RA:Option Addr) (rc:Nat) (ws:List Int) (ents:List (K16×Int)) (O:Option Addr) (cO:Nat) (hs:List Hs),v9=.slice RA rem.length rc/\v12=.slice O hs.length cO/\v13=.int .i64 x/\i<=E.length/\
      Hid ((∀h:i<E.length,x=E[i])/\(i=E.length->x=top+1)/\(∀n (h:n<hs.length),hs[n].l.length<=64)/\SL w2 RA rc rem/\SpI wr w2.heap.size w2.heap.size (w2.heap.size+1) LS E top m i x pre rem ws ents O cO hs)/\Ext w2 wr) (fun _ _ v _=>(top+1-intOf v).toNat)
     case atStart=>exact⟨0,0,[],m,RA,rc,List.replicate 16 0,[],none,0,[],rfl,rfl,rfl,Nat.zero_le _,⟨HE0.out.2,fun h=>absurd h (by have:=HE0.out.1;omega),fun n h=>by simp at h,HRD.out,HI0.out⟩,X2⟩
     case round=>
      clear HI0 HE0 X2 hRD bW2 mM;obtain⟨i,x,pre,rem,RA,rc,ws,ents,O,cO,hs,rfl,rfl,rfl,hiE,HX,x4⟩:=hrel;by_cases hiE2:i<E.length
      ·have hxe:=HX.out.1 hiE2;have hxt:x<=top:=by rw[hxe];exact HEV.out.ends.le _ (List.getElem_mem hiE2)
       have HXE:=lh hxe;have HIB:=lh hiE2;have HW0:=lh (show m=pre++rem/\(∀p∈pre,p.1<=x)/\(∀p∈rem,x<=p.1)/\ZS ws (par pre)/\Blk wr w2.heap.size 204 (ws.map (Value.int .u64)).toArray/\SL w2 RA rc rem/\WX wr (w2.heap.size+1) VR (Value.int .i64) ents/\SO wr w2.heap.size O cO hs from
        ⟨HX.out.2.2.2.2.cut.1,fun p hp=>Int.le_of_lt (HX.out.2.2.2.2.cut.2.1 p hp),HX.out.2.2.2.2.cut.2.2,HX.out.2.2.2.2.rep,HX.out.2.2.2.2.blk,HX.out.2.2.2.1,HX.out.2.2.2.2.map,HX.out.2.2.2.2.out⟩)
       have HEK:=lh (show ents.length=(Qj LS E i).length/\(∀n (h:n<ents.length),ents[n].2=(n:Int)/\ZS ents[n].1.1 (fun q=>((Qj LS E i).getD n []).getD q false))/\hs.length=(Qj LS E i).length/\(∀n (h:n<hs.length),hs[n].l=ZU LS E top ((Qj LS E i).getD n []) i)/\(∀n (h:n<hs.length),hs[n].l.length<=64) from
        ⟨HX.out.2.2.2.2.elen,HX.out.2.2.2.2.keys,HX.out.2.2.2.2.hlen,HX.out.2.2.2.2.cls,HX.out.2.2.1⟩)
       clear HX hxe hiE
       go_wp2_with fail
       go_loopw [9] (fun v9 wm=>∃(pre rem:List Sp) (RA:Option Addr) (rc:Nat) (ws:List Int),v9=.slice RA rem.length rc/\Hid (m=pre++rem/\(∀p∈pre,p.1<=x)/\(∀p∈rem,x<=p.1)/\ZS ws (par pre)/\Blk wm w2.heap.size 204 (ws.map (Value.int .u64)).toArray/\SL w2 RA rc rem/\WX wm (w2.heap.size+1) VR (Value.int .i64) ents/\SO wm w2.heap.size O cO hs)/\Ext w2 wm) (fun v _=>M8 v)
       case atStart=>exact⟨pre,rem,RA,rc,ws,rfl,HW0,x4⟩
       case round=>
        clear HW0 x4;obtain⟨pre,rem,RA,rc,ws,rfl,HW,x5⟩:=hrel;by_cases hcx:∃p r,rem=p::r/\p.1=x
        ·obtain⟨p,rem',hre,hpx⟩:=hcx;subst hre;obtain⟨rem,hrm⟩:∃rem,rem=rem':=⟨_,rfl⟩;subst hrm;obtain⟨hmc,hpre,hrem,hrep,hblk,hsl,hmap,hso⟩:=HW.out;obtain⟨pb,po,rfl,g1,g2⟩:=(hsl.ext x5).get (k:=0) si;simp only[List.getElem_cons_zero,Nat.zero_mul,Nat.add_zero] at g1 g2;have hpm:=HSM.out p (by rw[hmc];simp);replace hmc:=lh hmc;obtain⟨qn,hqn⟩:∃qn:Nat,p.2=qn:=⟨p.2.toNat,om⟩;have hq100:qn<1024:=om;obtain⟨nw,hnw,hnl,_⟩:=hrep.2 (qn / 64) om;have HTG:=lh (hrep.toggle (q:=qn) om hnw);obtain⟨plo,phi⟩:=p
         simp only at hpx hqn g1 g2 hpm
         subst hqn;subst hpx;obtain⟨jn,hjn⟩:∃jn,jn=qn / 64:=⟨_,rfl⟩;obtain⟨rn,hrn⟩:∃rn,rn=qn % 64:=⟨_,rfl⟩
         rw[<-hjn] at hnw HTG
         rw[<-hrn] at HTG;have hcw:wr.cell? ⟨w2.heap.size,jn,none⟩=some (.int .u64 (nw:Int)):=by
          rw[hblk.cell];simp[hnw]
         have hcf:=hblk.frz jn;have kq1:=kx0 g2;have kq2:=kx0 hcw;have hr0:(0:Int)<(rem.length:Int)+1:=om;have hdv:IntKind.i64.wrap ((qn:Int) / 64)=(jn:Int):=wj;have hmd:IntKind.i64.wrap ((qn:Int) % 64)=(rn:Int):=wj;have hq16:(jn:Int)<16:=om;have htm:(qn:Int).tmod 64=(rn:Int):=by rw[Int.tmod_eq_emod_of_nonneg om];omega
         have hr64:rn<64:=om;have hjn16:jn<16:=om;have HXV:=lh (cQ nw rn hnl hr64);clear hjn hrn hnw
         go_upto_region 19 with fail
         refine Xs.start [w2.heap.size] 15 kr ?_;refine Xst 0 ?_;refine Xst 1 ?_;refine Xst 2 ?_;refine Xst 3 ?_;refine Xst 4 ?_;refine Xst 5 ?_;refine Xst 6 ?_;refine Xst 7 ?_;refine Xst 8 ?_;refine Xst 9 ?_;refine Xst 10 ?_;refine Xst 11 ?_;refine Xst 12 ?_;refine Xst 13 ?_;refine Xst 14 ?_;refine Xs.stop dK (fun w6 hE6 hX6=>?_);refine Xsp 15 fun w7 hE7 hK7 K hKK=>?_;have x67:=hX6.trans hE7;have hb7:=hblk.ext x67;have hc7:=x67.cell hcw;have hz7:=hb7.frz jn;go_simp;refine hKK _ _ (QM (Q4 _ _ _) List.mem_cons_self _ _) (hK7.setL List.mem_cons_self _ _) ?_;clear hKK;refine ptm ?_;refine Xdn fun w8 hE8 hK8=>?_;rw[HXV.out] at hE8;have kk:=(KpP.set (p:=(·=w2.heap.size)) (x:=⟨w2.heap.size,jn,none⟩) (KpP.of_ext x67) (.inl rfl) (.int .u64 ((nw ^^^ 2 ^ rn:Nat):Int))).trans (KpP.of_ext hE8);have hb8:=(hb7.set jn (.int .u64 ((nw ^^^ 2 ^ rn:Nat):Int))).ext hE8;rw[List.setIfInBounds_toArray,<-List.map_set] at hb8;have X8:=((x5.trans x67).setNew (p:=⟨w2.heap.size,jn,none⟩) (Nat.le_refl _) (.int .u64 ((nw ^^^ 2 ^ rn:Nat):Int))).trans hE8;have hm8:=hmap.kp kk (fun e=>hmap.ne hblk e);have hs8:=hso.kp hblk de de kk;have hgs:pb≠w2.heap.size:=by
          rintro rfl;rw[hblk.cell] at g1;have:(ws.map (Value.int .u64)).toArray[po]? = some (.int .i64 plo):=g1;simp at this
         have hsl8:=hsl;have hrl:=hsl8.le;have hrd:=hsl8.drop1;have HP8:=lh (show m=(pre++[(plo,(qn:Int))])++rem/\(∀p∈pre++[(plo,(qn:Int))],p.1<=plo)/\(∀p∈rem,plo<=p.1)/\ZS (ws.set jn ((nw ^^^ 2 ^ rn:Nat):Int)) (par (pre++[(plo,(qn:Int))])) from
          ⟨by rw[hmc.out];simp,fun p hp=>by
           rcases List.mem_append.1 hp with h|h
           ·exact hpre p h
           ·obtain rfl:=List.mem_singleton.1 h;exact Int.le_refl _,fun p hp=>hrem p (by simp[hp]),HTG.out.congr (fun z=>by
           rw[Tw];by_cases hz:z=qn
           ·subst hz;simp
           ·have:¬((qn:Int)=(z:Int)):=om;simp[hz,this])⟩)
         have HW8:=lh (And.intro hm8 hs8);have HB8:=lh hb8;clear HW hmc hpre hrem hrep hblk hsl hmap hso hm8 hs8 hb8 kk hE8 hK8 hE7 hK7 hE6 hX6 x67 hb7 hc7 hz7 hcw hcf kq1 kq2 hdv hmd hq16 htm HTG hgs g1 g2 hsl8 HXV;by_cases hrc:rc=1
         ·subst hrc;have hre:rem=[]:=by
           simp only[List.length_cons] at hrl;exact List.length_eq_zero_iff.1 om
          subst hre;have HW9:=lh (show m=(pre++[(plo,(qn:Int))])++[]/\(∀p∈pre++[(plo,(qn:Int))],p.1<=plo)/\(∀p∈([]:List Sp),plo<=p.1)/\ZS (ws.set jn ((nw ^^^ 2 ^ rn:Nat):Int)) (par (pre++[(plo,(qn:Int))]))/\Blk w8 w2.heap.size 204 ((ws.set jn ((nw ^^^ 2 ^ rn:Nat):Int)).map (Value.int .u64)).toArray/\SL w2 (some ⟨pb,po,none⟩) 0 []/\WX w8 (w2.heap.size+1) VR (Value.int .i64) ents/\SO w8 w2.heap.size O cO hs from
           ⟨HP8.out.1,HP8.out.2.1,HP8.out.2.2.1,HP8.out.2.2.2,HB8.out,⟨Nat.le_refl _,Nat.zero_le _,by simp,fun h=>absurd rfl h⟩,HW8.out.1,HW8.out.2⟩)
          clear HP8 HW8 HB8 hrd hrl
          go_wp2_with fail
          go_roundw
          case rel=>exact⟨pre++[(plo,(qn:Int))],[],_,_,ws.set jn ((nw ^^^ 2 ^ rn:Nat):Int),rfl,HW9,X8⟩
          case measure=>simp[M8]
         ·have hrcI:¬(rc:Int)=1:=om;have HW9:=lh (show m=(pre++[(plo,(qn:Int))])++rem/\(∀p∈pre++[(plo,(qn:Int))],p.1<=plo)/\(∀p∈rem,plo<=p.1)/\ZS (ws.set jn ((nw ^^^ 2 ^ rn:Nat):Int)) (par (pre++[(plo,(qn:Int))]))/\Blk w8 w2.heap.size 204 ((ws.set jn ((nw ^^^ 2 ^ rn:Nat):Int)).map (Value.int .u64)).toArray/\SL w2 (some ⟨pb,po+2,none⟩) (rc-1) rem/\WX w8 (w2.heap.size+1) VR (Value.int .i64) ents/\SO w8 w2.heap.size O cO hs from
           ⟨HP8.out.1,HP8.out.2.1,HP8.out.2.2.1,HP8.out.2.2.2,HB8.out,hrd,HW8.out.1,HW8.out.2⟩)
          clear HP8 HW8 HB8 hrd
          go_wp2_with fail
          go_roundw
          case rel=>exact⟨pre++[(plo,(qn:Int))],rem,_,_,ws.set jn ((nw ^^^ 2 ^ rn:Nat):Int),rfl,HW9,X8⟩
          case measure=>simp[M8]
        ·have HCX:=lh (show ∀p r,rem=p::r->¬p.1=x from fun p r h1 h2=>hcx ⟨p,r,h1,h2⟩);clear hcx;obtain⟨v0,v1,v2,v3,v4,v5,v6,v7,v8,v9,v10,v11,v12,v13,v14,v15,hwl⟩:=fD HW.out.2.2.2.1.1;subst hwl;have HLV:∃JW:Int,Hid (JW=WJ top rem):=⟨_,lh rfl⟩;obtain⟨JW,HLV⟩:=HLV;obtain⟨hmc,hpre,hrem,hrep,hblk,hsl,hmap,hso⟩:=HW.out;have hcut:Cut m pre rem x:=⟨hmc,hpre,fun p hp=>by
          have hs:=HEV.out.srt;rw[hmc] at hs;have h2:=(List.pairwise_append.1 hs).2.1
          cases rem with
          | nil=>simp at hp
          | cons r rem=>
           have h3:=HCX.out r rem rfl;have h4:=hrem r si;rcases List.mem_cons.1 hp with rfl|h5
           ·omega
           ·have:=(List.pairwise_cons.1 h2).1 p h5;omega⟩
         have HPV:∀q,par pre q=(vec LS x).getD q false:=fun q=>by rw[TB,<-HPH.out x hxt q,Cut.filter hcut]
         have HKA:=bP (K:=Qj LS E i) (v:=vec LS x) (ws:=[v0,v1,v2,v3,v4,v5,v6,v7,v8,v9,v10,v11,v12,v13,v14,v15]) (L:=LS.length) rfl (hrep.congr HPV) om (LU _ _) (vH _ _ _) HEK.out.1 HEK.out.2.1;have hlk0:=(hmap.look Pz Tryz.underlying205 (lQ _) (⟨[v0,v1,v2,v3,v4,v5,v6,v7,v8,v9,v10,v11,v12,v13,v14,v15],rfl⟩:K16)).2;have HNX:=lh (show(if h:i+1<E.length then E[i+1]-1 else top)=WJ top rem from(HEV.out.next HIB.out (pre:=pre) (rem:=rem) (by rw[<-HXE.out];exact hcut)).trans (by cases rem<;>rfl));have c0:wr.cell? ⟨w2.heap.size,0,none⟩=some (.int .u64 v0):=by rw[hblk.cell];rfl
         have c1:wr.cell? ⟨w2.heap.size,1,none⟩=some (.int .u64 v1):=by rw[hblk.cell];rfl
         have c2:wr.cell? ⟨w2.heap.size,2,none⟩=some (.int .u64 v2):=by rw[hblk.cell];rfl
         have c3:wr.cell? ⟨w2.heap.size,3,none⟩=some (.int .u64 v3):=by rw[hblk.cell];rfl
         have c4:wr.cell? ⟨w2.heap.size,4,none⟩=some (.int .u64 v4):=by rw[hblk.cell];rfl
         have c5:wr.cell? ⟨w2.heap.size,5,none⟩=some (.int .u64 v5):=by rw[hblk.cell];rfl
         have c6:wr.cell? ⟨w2.heap.size,6,none⟩=some (.int .u64 v6):=by rw[hblk.cell];rfl
         have c7:wr.cell? ⟨w2.heap.size,7,none⟩=some (.int .u64 v7):=by rw[hblk.cell];rfl
         have c8:wr.cell? ⟨w2.heap.size,8,none⟩=some (.int .u64 v8):=by rw[hblk.cell];rfl
         have c9:wr.cell? ⟨w2.heap.size,9,none⟩=some (.int .u64 v9):=by rw[hblk.cell];rfl
         have c10:wr.cell? ⟨w2.heap.size,10,none⟩=some (.int .u64 v10):=by rw[hblk.cell];rfl
         have c11:wr.cell? ⟨w2.heap.size,11,none⟩=some (.int .u64 v11):=by rw[hblk.cell];rfl
         have c12:wr.cell? ⟨w2.heap.size,12,none⟩=some (.int .u64 v12):=by rw[hblk.cell];rfl
         have c13:wr.cell? ⟨w2.heap.size,13,none⟩=some (.int .u64 v13):=by rw[hblk.cell];rfl
         have c14:wr.cell? ⟨w2.heap.size,14,none⟩=some (.int .u64 v14):=by rw[hblk.cell];rfl
         have c15:wr.cell? ⟨w2.heap.size,15,none⟩=some (.int .u64 v15):=by rw[hblk.cell];rfl
         have HMP:=lh hmap;have HSO:=lh hso;have HCUT:=lh hcut;have HRV:=lh (hrep.congr HPV);clear hmc hpre hrem hrep hblk hsl hmap hso hcut HPV;by_cases hkn:vec LS x∈Qj LS E i
         ·obtain⟨n,hn,hKn⟩:=List.getElem_of_mem hkn;have hat:=HKA.2 n hn (V1 _ _ _) hKn;rw[hat] at hlk0;simp only[Option.map_some,Option.getD_some,Option.isSome_some] at hlk0;have hlk:(Instr.lookup 205 (.map (some (w2.heap.size+1))) (.agg #[.int .u64 v0,.int .u64 v1,.int .u64 v2,.int .u64 v3,.int .u64 v4,.int .u64 v5,.int .u64 v6,.int .u64 v7,.int .u64 v8,.int .u64 v9,.int .u64 v10,.int .u64 v11,.int .u64 v12,.int .u64 v13,.int .u64 v14,.int .u64 v15]) true).run Tryz.prog wr=.ok (.tuple #[.int .i64 n,.bool true]) wr:=hlk0;have hnh:n<hs.length:=by rw[HEK.out.2.2.1];exact hn
          obtain⟨ob,oo,hOA,hoc⟩:=QQ.cells HSO.out.own (by intro e;have h0:=List.map_eq_nil_iff.1 e;rw[h0] at hnh;exact absurd hnh si);have co:wr.cell? ⟨ob,oo+n,none⟩=some (.slice hs[n].A hs[n].l.length hs[n].c):=by
           have:=hoc n (by simpa[QR] using hnh)
           simpa[QR] using this
          have hpn:=HSO.out.each _ (List.getElem_mem hnh);have hnI:(n:Int)<hs.length:=om;have HKN:=lh hKn;have HHN:=fun(w':World) (A':Option Addr) (c':Nat) (l':List Sp)=>lh (HSO.out.put hnh (w':=w') (A':=A') (c':=c') (l':=l'));subst hOA;clear HKA hlk0 hat hkn hKn hoc;generalize hhn:hs[n]=hh at *;replace hhn:=lh hhn;obtain⟨hA,hc,hl2⟩:=hh
          simp only at co
          have HLN:Hid (hl2=ZU LS E top (vec LS x) i):=by
           have h1:=HEK.out.2.2.2.1 n hnh;rw[hhn.out] at h1;have h2:(Qj LS E i).getD n []=vec LS x:=by
            rw[<-HKN.out];simp[List.getD_eq_getElem?_getD,show n<(Qj LS E i).length by rw[<-HEK.out.2.2.1];exact hnh]
           rw[h2] at h1;exact lh h1
          have HAD:=lh (Bk w2.heap.size hA hc hl2 (x,WJ top rem) wr hpn x5.size (by rw[HLN.out];exact DD HEV.out.ends HEV.out.head om) (by rw[<-HNX.out,HXE.out];exact yj HIB.out HEV.out.ends HEV.out.head om) (by rw[HLN.out];have:=Gx (ls:=LS) (E:=E) (top:=top) (v:=vec LS x) (i:=i);omega));rcases rem with _|⟨p,rem⟩
          ·simp only[WJ,spV] at HAD;clear hpn
           go_wp2_with fail
           refine HAD.out.mono ?_;rintro e wA ⟨A',c',rfl,hoA,hkA,hatA⟩;obtain⟨g,hOe,hgb,cg,zg,hSO2⟩:=(HHN wA A' c' _).out hkA hoA hatA;injection hOe with hOe
           injection hOe with e1 e2
           subst e1;subst e2;clear HAD HHN;have hh1:¬(1024:Int)<hs.length:=by
            have h1:=HEK.out.2.2.1;have h2:=Xz LS E i;omega
           have HSP:=lh (SpI.old HEV.out HIB.out (HW.out.2.2.2.2.1) HMP.out HSO.out HW.out.2.2.2.1 (by rw[<-HXE.out];exact HCUT.out) HEK.out.1 HEK.out.2.1 HEK.out.2.2.1 HEK.out.2.2.2.1 hnh (by rw[HKN.out,HXE.out]) (by rw[hhn.out];exact hkA) rfl _ (by rw[<-HXE.out,<-HLN.out];exact hSO2));have X9:=(x5.kp hkA (fun b hb=>by
            have h1:=HSO.out.each _ (List.getElem_mem hnh);rw[hhn.out] at h1;exact h1.row hb)).setNew (p:=⟨ob,n,none⟩) hgb (Value.slice A' (QU hl2 (x,top)).length c')
           have HX9:=lh X9;clear X9;by_cases h64:(64:Int)<((QU hl2 (x,top)).length:Int)
           ·exact fE
           ·have H64:∀k (h:k<(hs.set n ⟨A',c',QU hl2 (x,top)⟩).length),(hs.set n ⟨A',c',QU hl2 (x,top)⟩)[k].l.length<=64:=fun k h=>by
             exact fI
            replace H64:=lh H64
            go_wp2_with fail
            refine⟨⟨i+1,WJ top []+1,pre,[],RA,rc,[v0,v1,v2,v3,v4,v5,v6,v7,v8,v9,v10,v11,v12,v13,v14,v15],ents,_,cO,hs.set n ⟨A',c',QU hl2 (x,top)⟩,rfl,by rw[List.length_set],rfl,HIB.out,lh ⟨fun h=>?_,fun h=>?_,H64.out,HW.out.2.2.2.2.2.1,?_⟩,HX9.out⟩,?_⟩
            ·have:=HNX.out;rw[dif_pos h] at this;omega
            ·have:=HNX.out;rw[dif_neg om] at this;omega
            ·have:=HSP.out
             rw[<-HXE.out,<-HLN.out] at this;exact this
            ·simp only[intOf,WJ];omega
          ·obtain⟨pb,po,hRA,g1,g2⟩:=(HW.out.2.2.2.2.2.1.ext x5).get (k:=0) si;simp only[List.getElem_cons_zero,Nat.zero_mul,Nat.add_zero] at g1 g2;subst hRA;obtain⟨plo,phi⟩:=p
           simp only at g1 g2
           have hpx:=HCX.out _ _ rfl;have hpx2:=HW.out.2.2.1 _ List.mem_cons_self;have hpm:=HSM.out (plo,phi) (by rw[HW.out.1];simp)
           simp only at hpx hpx2 hpm
           have hr0:(0:Int)<(rem.length:Int)+1:=om;simp only[WJ,spV] at HAD;clear hpn
           go_wp2_with fail
           refine HAD.out.mono ?_;rintro e wA ⟨A',c',rfl,hoA,hkA,hatA⟩;obtain⟨g,hOe,hgb,cg,zg,hSO2⟩:=(HHN wA A' c' _).out hkA hoA hatA;injection hOe with hOe
           injection hOe with e1 e2
           subst e1;subst e2;clear HAD HHN;have hh1:¬(1024:Int)<hs.length:=by
            have h1:=HEK.out.2.2.1;have h2:=Xz LS E i;omega
           have HSP:=lh (SpI.old HEV.out HIB.out (HW.out.2.2.2.2.1) HMP.out HSO.out HW.out.2.2.2.1 (by rw[<-HXE.out];exact HCUT.out) HEK.out.1 HEK.out.2.1 HEK.out.2.2.1 HEK.out.2.2.2.1 hnh (by rw[HKN.out,HXE.out]) (by rw[hhn.out];exact hkA) rfl _ (by rw[<-HXE.out,<-HLN.out];exact hSO2));have X9:=(x5.kp hkA (fun b hb=>by
            have h1:=HSO.out.each _ (List.getElem_mem hnh);rw[hhn.out] at h1;exact h1.row hb)).setNew (p:=⟨ob,n,none⟩) hgb (Value.slice A' (QU hl2 (x,plo-1)).length c')
           have HX9:=lh X9;clear X9;by_cases h64:(64:Int)<((QU hl2 (x,plo-1)).length:Int)
           ·exact fE
           ·have H64:∀k (h:k<(hs.set n ⟨A',c',QU hl2 (x,plo-1)⟩).length),(hs.set n ⟨A',c',QU hl2 (x,plo-1)⟩)[k].l.length<=64:=fun k h=>by
             exact fI
            replace H64:=lh H64
            go_wp2_with fail
            refine⟨⟨i+1,WJ top ((plo,phi)::rem)+1,pre,(plo,phi)::rem,_,rc,[v0,v1,v2,v3,v4,v5,v6,v7,v8,v9,v10,v11,v12,v13,v14,v15],ents,_,cO,hs.set n ⟨A',c',QU hl2 (x,plo-1)⟩,rfl,by rw[List.length_set],by simp only[WJ];congr 1;omega,HIB.out,lh ⟨fun h=>?_,fun h=>?_,H64.out,HW.out.2.2.2.2.2.1,?_⟩,HX9.out⟩,?_⟩
            ·have:=HNX.out;rw[dif_pos h] at this;omega
            ·have:=HNX.out;rw[dif_neg om] at this;omega
            ·have:=HSP.out
             rw[<-HXE.out,<-HLN.out] at this;exact this
            ·simp only[intOf,WJ];omega
         ·have hat:=HKA.1 hkn;rw[hat] at hlk0;simp only[Option.map_none,Option.getD_none,Option.isSome_none] at hlk0;have hlk:(Instr.lookup 205 (.map (some (w2.heap.size+1))) (.agg #[.int .u64 v0,.int .u64 v1,.int .u64 v2,.int .u64 v3,.int .u64 v4,.int .u64 v5,.int .u64 v6,.int .u64 v7,.int .u64 v8,.int .u64 v9,.int .u64 v10,.int .u64 v11,.int .u64 v12,.int .u64 v13,.int .u64 v14,.int .u64 v15]) true).run Tryz.prog wr=.ok (.tuple #[.int .i64 0,.bool false]) wr:=hlk0;obtain⟨wp,hput0,hmp,kp⟩:=lN HMP.out Pz Tryz.underlying205 (⟨[v0,v1,v2,v3,v4,v5,v6,v7,v8,v9,v10,v11,v12,v13,v14,v15],rfl⟩:K16) (hs.length:Int);have hput:(Instr.mapUpdate 205 (.map (some (w2.heap.size+1))) (.agg #[.int .u64 v0,.int .u64 v1,.int .u64 v2,.int .u64 v3,.int .u64 v4,.int .u64 v5,.int .u64 v6,.int .u64 v7,.int .u64 v8,.int .u64 v9,.int .u64 v10,.int .u64 v11,.int .u64 v12,.int .u64 v13,.int .u64 v14,.int .u64 v15]) (.int .i64 (hs.length:Int))).run Tryz.prog wr=.ok () wp:=hput0;rw[TE hat] at hmp;have HS1:=lh (HSO.out.kpm HMP.out kp);have xp:=x5.kp kp (fun b hb=>by rw[hb];omega);have HMP1:=lh hmp;have HB1:=lh (kp.blk HW.out.2.2.2.2.1 (fun e=>HMP.out.ne HW.out.2.2.2.2.1 e.symm));have HKN:=lh hkn;obtain⟨i0,hi0,hz0,hz1,hz2⟩:=info_parts vG;have hh1:hs.length<=1000:=by
           have h1:=HEK.out.2.2.1;have h2:=Xz LS E i;omega
          have HKP:=lh kp;clear hput0 hlk0 hat HKA hkn hmp kp;rcases rem with _|⟨p,rem⟩
          ·go_upto_region 29 with((at_builtin;refine Qv _ rfl _ _ _ rfl w2.heap.size 23 i0 (.slice none 0 0) 1 24 Tryz.underlying125 hi0 hz0 hz1 hz2 rfl om O hs.length cO (QR hs) rfl (QQ.ext HS1.out.own (Ext.alloc _ _)) _ 1 1 [.slice none 0 0] rfl rfl (QC (Blk.new _ _ _)) (by intro u hu;obtain rfl:=List.mem_singleton.1 hu;rfl) um om (xp.trans (Ext.alloc _ _)).size ?_;intro E2 cE2 w4 ho4 hg4 hat4))
           have hs4:=lh ((HS1.out.ext (Ext.alloc _ _)).add hg4 ho4);have X4:=Ext.app (xp.trans (Ext.alloc _ _)) (QQ.ext HS1.out.own (Ext.alloc _ _)) hg4;have HAD:=lh (Bk w2.heap.size none 0 [] (x,WJ top []) w4 (QQ.nil _ _ _ _) X4.size si (by rw[<-HNX.out,HXE.out];exact yj HIB.out HEV.out.ends HEV.out.head om) si);simp only[WJ,spV] at HAD;obtain⟨eb,eo,hE2,hoc⟩:=QQ.cells ho4 si;have co:w4.cell? ⟨eb,eo+hs.length,none⟩=some (.slice none 0 0):=by
            have:=hoc hs.length (by simp[QR])
            simpa[QR] using this
           subst hE2;clear hoc
           go_wp2_with fail
           refine HAD.out.mono ?_;rintro e wA ⟨A',c',rfl,hoA,hkA,hatA⟩;obtain⟨g,hOe,hgb,cg,zg,hSO2⟩:=SO.putNew hs4.out hkA hoA hatA;injection hOe with hOe
           injection hOe with e1 e2
           subst e1;subst e2;clear HAD;have HMB:=lh (GB (n:=hs.length) HMP1.out HB1.out HS1.out hg4 hs4.out rfl hkA (.slice A' (QU [] (x,top)).length c'));have X9:=(X4.kp hkA (fun b hb=>by simp at hb)).setNew (p:=⟨eb,hs.length,none⟩) hgb (Value.slice A' (QU [] (x,top)).length c');have HX9:=lh X9;clear X9;have HSP:=lh (SpI.new HEV.out HIB.out rfl HMB.out.2 HMB.out.1 HW.out.2.2.2.1 (by rw[<-HXE.out];exact HRV.out) (by rw[<-HXE.out];exact HCUT.out) HEK.out.1 HEK.out.2.1 HEK.out.2.2.1 HEK.out.2.2.2.1 (by rw[<-HXE.out];exact HKN.out) (by rw[<-HXE.out];exact hSO2));have HZL:Hid ((QU [] (x,top)).length<=1):=lh (by have:=(jy [] (x,top)).2;simpa using this);have h64:¬(64:Int)<((QU [] (x,top)).length:Int):=by have:=HZL.out;omega
           have hh2:¬(1024:Int)<(hs.length:Int)+1:=om;have H64:∀k (h:k<(hs++[(⟨A',c',QU [] (x,top)⟩:Hs)]).length),(hs++[(⟨A',c',QU [] (x,top)⟩:Hs)])[k].l.length<=64:=fun k h=>by
            exact fF
           replace H64:=lh H64;generalize hz:QU [] (x,top)=zl at *;replace hz:=lh hz
           go_wp2_with fail
           refine⟨⟨i+1,WJ top []+1,pre,[],RA,rc,[v0,v1,v2,v3,v4,v5,v6,v7,v8,v9,v10,v11,v12,v13,v14,v15],ents++[((⟨[v0,v1,v2,v3,v4,v5,v6,v7,v8,v9,v10,v11,v12,v13,v14,v15],rfl⟩:K16),(hs.length:Int))],_,cE2,hs++[(⟨A',c',zl⟩:Hs)],rfl,by rw[List.length_append];rfl,rfl,HIB.out,lh ⟨fun h=>?_,fun h=>?_,H64.out,HW.out.2.2.2.2.2.1,?_⟩,HX9.out⟩,?_⟩
           ·have:=HNX.out;rw[dif_pos h] at this;omega
           ·have:=HNX.out;rw[dif_neg om] at this;omega
           ·exact fH
           ·simp only[intOf,WJ];omega
          ·obtain⟨pb,po,hRA,g1,g2⟩:=(HW.out.2.2.2.2.2.1.ext x5).get (k:=0) si;simp only[List.getElem_cons_zero,Nat.zero_mul,Nat.add_zero] at g1 g2;subst hRA;obtain⟨plo,phi⟩:=p
           simp only at g1 g2
           have hpx:=HCX.out _ _ rfl;have hpx2:=HW.out.2.2.1 _ List.mem_cons_self;have hpm:=HSM.out (plo,phi) (by rw[HW.out.1];simp)
           simp only at hpx hpx2 hpm
           have hr0:(0:Int)<(rem.length:Int)+1:=om
           go_upto_region 29 with((at_builtin;refine Qv _ rfl _ _ _ rfl w2.heap.size 23 i0 (.slice none 0 0) 1 24 Tryz.underlying125 hi0 hz0 hz1 hz2 rfl om O hs.length cO (QR hs) rfl (QQ.ext HS1.out.own (Ext.alloc _ _)) _ 1 1 [.slice none 0 0] rfl rfl (QC (Blk.new _ _ _)) (by intro u hu;obtain rfl:=List.mem_singleton.1 hu;rfl) um om (xp.trans (Ext.alloc _ _)).size ?_;intro E2 cE2 w4 ho4 hg4 hat4))
           have hs4:=lh ((HS1.out.ext (Ext.alloc _ _)).add hg4 ho4);have X4:=Ext.app (xp.trans (Ext.alloc _ _)) (QQ.ext HS1.out.own (Ext.alloc _ _)) hg4;have HAD:=lh (Bk w2.heap.size none 0 [] (x,WJ top ((plo,phi)::rem)) w4 (QQ.nil _ _ _ _) X4.size si (by rw[<-HNX.out,HXE.out];exact yj HIB.out HEV.out.ends HEV.out.head om) si);simp only[WJ,spV] at HAD;obtain⟨eb,eo,hE2,hoc⟩:=QQ.cells ho4 si;have co:w4.cell? ⟨eb,eo+hs.length,none⟩=some (.slice none 0 0):=by
            have:=hoc hs.length (by simp[QR])
            simpa[QR] using this
           subst hE2;clear hoc
           go_wp2_with fail
           refine HAD.out.mono ?_;rintro e wA ⟨A',c',rfl,hoA,hkA,hatA⟩;obtain⟨g,hOe,hgb,cg,zg,hSO2⟩:=SO.putNew hs4.out hkA hoA hatA;injection hOe with hOe
           injection hOe with e1 e2
           subst e1;subst e2;clear HAD;have HMB:=lh (GB (n:=hs.length) HMP1.out HB1.out HS1.out hg4 hs4.out rfl hkA (.slice A' (QU [] (x,plo-1)).length c'));have X9:=(X4.kp hkA (fun b hb=>by simp at hb)).setNew (p:=⟨eb,hs.length,none⟩) hgb (Value.slice A' (QU [] (x,plo-1)).length c');have HX9:=lh X9;clear X9;have HSP:=lh (SpI.new HEV.out HIB.out rfl HMB.out.2 HMB.out.1 HW.out.2.2.2.1 (by rw[<-HXE.out];exact HRV.out) (by rw[<-HXE.out];exact HCUT.out) HEK.out.1 HEK.out.2.1 HEK.out.2.2.1 HEK.out.2.2.2.1 (by rw[<-HXE.out];exact HKN.out) (by rw[<-HXE.out];exact hSO2));have HZL:Hid ((QU [] (x,plo-1)).length<=1):=lh (by have:=(jy [] (x,plo-1)).2;simpa using this);have h64:¬(64:Int)<((QU [] (x,plo-1)).length:Int):=by have:=HZL.out;omega
           have hh2:¬(1024:Int)<(hs.length:Int)+1:=om;have H64:∀k (h:k<(hs++[(⟨A',c',QU [] (x,plo-1)⟩:Hs)]).length),(hs++[(⟨A',c',QU [] (x,plo-1)⟩:Hs)])[k].l.length<=64:=fun k h=>by
            exact fF
           replace H64:=lh H64;generalize hz:QU [] (x,plo-1)=zl at *;replace hz:=lh hz
           go_wp2_with fail
           refine⟨⟨i+1,WJ top ((plo,phi)::rem)+1,pre,(plo,phi)::rem,_,rc,[v0,v1,v2,v3,v4,v5,v6,v7,v8,v9,v10,v11,v12,v13,v14,v15],ents++[((⟨[v0,v1,v2,v3,v4,v5,v6,v7,v8,v9,v10,v11,v12,v13,v14,v15],rfl⟩:K16),(hs.length:Int))],_,cE2,hs++[(⟨A',c',zl⟩:Hs)],rfl,by rw[List.length_append];rfl,by simp only[WJ];congr 1;omega,HIB.out,lh ⟨fun h=>?_,fun h=>?_,H64.out,HW.out.2.2.2.2.2.1,?_⟩,HX9.out⟩,?_⟩
           ·have:=HNX.out;rw[dif_pos h] at this;omega
           ·have:=HNX.out;rw[dif_neg om] at this;omega
           ·exact fH
           ·simp only[intOf,WJ];omega
      ·have hie:i=E.length:=om;have hxt:x=top+1:=HX.out.2.1 hie;subst hxt;have HS0:=lh (bU HCL.out HSE.out (by rw[<-hie];exact HX.out.2.2.2.2.hlen) (by rw[<-hie];exact HX.out.2.2.2.2.cls) HX.out.2.2.1);have HLL:=lh (HX.out.2.2.2.2.out.sl (fun z hz s hs2=>by
        obtain⟨k,hk,rfl⟩:=List.getElem_of_mem hz;rw[HX.out.2.2.2.2.cls k hk] at hs2;exact DD HEV.out.ends HEV.out.head om s hs2))
       clear HX
       go_wp2_with fail
       exact bodyPost_ret (v:=.tuple #[.slice O hs.length cO,.int .i64 0]) (by simp[results,Tryz.results67,go_sem]) rfl (by rw[HLS.out];exact⟨O,cO,hs,by rw[HS0.out.1],HLL.out,by rw[HS0.out.1,if_pos rfl];exact HS0.out.2,X1.trans x4⟩)
theorem NQ (ls:List Hs)(x y:Int):jJ ls x y=decide (vec (ls.map (·.l)) x=vec (ls.map (·.l)) y):=by
 unfold jJ vec;rw[decide_eq_decide];constructor
 ·intro h;refine List.ext_getElem si (fun j h1 h2=>?_);have hj:j<ls.length:=by simpa using h1
  simpa using h j hj
 ·intro h j hj;have h1:(List.map (fun a=>has a x) (ls.map (·.l)))[j]'(by simpa using hj)=(List.map (fun a=>has a y) (ls.map (·.l)))[j]'(by simpa using hj):=by simp only[h]
  simpa using h1
def ZY (f g:Nat->Bool)(n k:Nat):List Bool:=(List.range n).map (fun j=>if j<k then f j else g j)
theorem WU (f g:Nat->Bool)(n k:Nat):(ZY f g n k).length=n:=by simp[ZY]
theorem K0 {f g:Nat->Bool}{n k j:Nat}(h:j<n):(ZY f g n k)[j]'(by rw[WU];exact h)=if j<k then f j else g j:=by simp[ZY]
theorem GC {f g:Nat->Bool}{n k:Nat}(h:k<n):(ZY f g n k).set k (f k)=ZY f g n (k+1):=by
 refine List.ext_getElem (by simp[WU]) (fun j h1 h2=>?_);have hj:j<n:=by rw[WU] at h2;exact h2
 rw[List.getElem_set,K0 hj];by_cases e:k=j
 ·subst e;rw[if_pos rfl,K0 hj,if_pos om]
 ·rw[if_neg e,K0 hj];by_cases h3:j<k
  ·rw[if_pos h3,if_pos om]
  ·rw[if_neg h3,if_neg om]
def alE (ls:List (List Sp))(E:List Int)(i j:Nat):Bool:=decide (vec ls (E.getD i 0)=vec ls (E.getD j 0))
def dnE (ls:List (List Sp))(E:List Int)(i j:Nat):Bool:=decide (vec ls (E.getD j 0)∈Qj ls E i)
theorem j8 {ls:List (List Sp)}{E:List Int}{k:Nat}:∀i,k<i->vec ls (E.getD k 0)∈Qj ls E i
 | 0,h=>absurd h (Nat.not_lt_zero _)
 | i+1,h=>by
  unfold Qj;by_cases hk:k=i
  ·subst hk
   split
   ·assumption
   ·simp
  ·have ih:=j8 (ls:=ls) (E:=E) (k:=k) i om
   split
   ·exact ih
   ·exact List.mem_append_left _ ih
theorem JC {E:List Int}{i:Nat}(h:i<E.length):E.getD i 0=E[i]:=by simp[List.getD_eq_getElem?_getD,h]
def inF (ls:List (List Sp))(E:List Int)(i:Nat):Nat->Bool:=fun j=>decide (i<=j)&&alE ls E i j
def dnF (ls:List (List Sp))(E:List Int)(i:Nat):Nat->Bool:=fun j=>dnE ls E i j || inF ls E i j
theorem GD {f g f' g':Nat->Bool}{n k k':Nat}(h:∀j,j<n->(if j<k then f j else g j)=(if j<k' then f' j else g' j)):ZY f g n k=ZY f' g' n k':=by
 refine List.ext_getElem (by simp[WU]) (fun j h1 h2=>?_);have hj:j<n:=by rw[WU] at h2;exact h2
 rw[K0 hj,K0 hj,h j hj]
theorem TI (ls:List (List Sp))(E:List Int)(i:Nat):List.replicate E.length false=ZY (inF ls E i) (fun _=>false) E.length i:=by
 refine List.ext_getElem (by simp[WU]) (fun j h1 h2=>?_);have hj:j<E.length:=by simpa using h1
 rw[K0 hj,List.getElem_replicate];by_cases h:j<i
 ·rw[if_pos h];unfold inF;rw[decide_eq_false om];rfl
 ·rw[if_neg h]
theorem fL {ls:List (List Sp)}{E:List Int}{i:Nat}(hi:i<E.length)(h:vec ls E[i]∉Qj ls E i):ZY (inF ls E i) (fun _=>false) E.length E.length=E.map (fun x=>decide (vec ls x=vec ls E[i])):=by
 refine List.ext_getElem (by simp[WU]) (fun j h1 h2=>?_);have hj:j<E.length:=by rw[WU] at h1;exact h1
 rw[K0 hj,if_pos hj,List.getElem_map];unfold inF alE;rw[JC hi,JC hj];by_cases h3:i<=j
 ·rw[decide_eq_true h3,Bool.true_and,decide_eq_decide];exact⟨Eq.symm,Eq.symm⟩
 ·rw[decide_eq_false h3,Bool.false_and]
  symm
  rw[decide_eq_false_iff_not];intro e;refine h ?_;have:=j8 (ls:=ls) (E:=E) (k:=j) i om;rw[JC hj,e] at this;exact this
theorem cW (ls:List (List Sp))(E:List Int):List.replicate E.length false=ZY (dnE ls E 0) (dnE ls E 0) E.length 0:=by
 refine List.ext_getElem (by simp[WU]) (fun j h1 h2=>?_);have hj:j<E.length:=by simpa using h1
 rw[K0 hj,List.getElem_replicate];simp[dnE,Qj]
theorem TL (ls:List (List Sp))(E:List Int)(i:Nat):ZY (dnE ls E i) (dnE ls E i) E.length 0=ZY (dnF ls E i) (dnE ls E i) E.length i:=GD (fun j hj=>by
 rw[if_neg (Nat.not_lt_zero _)];by_cases h:j<i
 ·rw[if_pos h];unfold dnF inF;rw[decide_eq_false om,Bool.false_and,Bool.or_false]
 ·rw[if_neg h])
theorem fM {ls:List (List Sp)}{E:List Int}{i:Nat}(hi:i<E.length)(h:vec ls E[i]∉Qj ls E i):ZY (dnF ls E i) (dnE ls E i) E.length E.length=ZY (dnE ls E (i+1)) (dnE ls E (i+1)) E.length 0:=GD (fun j hj=>by
 rw[if_pos hj,if_neg (Nat.not_lt_zero _)];unfold dnF inF alE dnE;rw[jT hi h,JC hi,JC hj];by_cases h1:vec ls E[j]∈Qj ls E i
 ·simp[h1]
 ·by_cases h2:vec ls E[j]=vec ls E[i]
  ·have h3:i<=j:=by
    rcases Nat.lt_or_ge j i with h4|h4
    ·have:=j8 (ls:=ls) (E:=E) (k:=j) i h4;rw[JC hj] at this;exact absurd this h1
    ·exact h4
   simp[h2,h3]
  ·have h2':¬vec ls E[i]=vec ls E[j]:=fun e=>h2 e.symm;simp[h1,h2,h2'])
theorem cZ {ls:List (List Sp)}{E:List Int}{i:Nat}(hi:i<E.length)(h:vec ls E[i]∈Qj ls E i):dnE ls E (i+1)=dnE ls E i:=by
 funext j
 unfold dnE;rw[jS hi h]
theorem SL.ne_bool {w:World}{A:Option Addr}{c:Nat}{l:List Sp}{g T:Nat}{bs:List Bool}(h:SL w A c l)(b:Blk w g T (bs.map Value.bool).toArray):l≠[]->∀k,A.map (·.block)=Option.some k->¬k=g:=by
 rintro hn k hk rfl;obtain⟨b',o,rfl,hc⟩:=h.at_ hn;have e:b'=k:=by simpa using hk
 subst e;have h0:=(hc 0 (List.length_pos_iff.2 hn)).1;rw[b.cell] at h0;simp only[List.getElem?_toArray,List.getElem?_map] at h0
 cases hq:bs[o+0*2]? with
 | none=>rw[hq] at h0;cases h0
 | some v=>rw[hq] at h0;cases h0
structure RsI (wr:World)(base gD:Nat)(ls:List (List Sp))(E:List Int)(top:Int)(i:Nat)(O:Option Addr)(cO:Nat)(hs:List Hs):Prop where
 dn:Blk wr gD 4 ((ZY (dnE ls E i) (dnE ls E i) E.length 0).map Value.bool).toArray
 own:QQ wr base 23 1 O hs.length cO (QR hs)
 sl:∀z∈hs,SL wr z.A z.c z.l
 cls:hs.map (·.l)=(Qj ls E i).map (fun v=>cls E top (fun x=>decide (vec ls x=v)))
 ok:∀z∈hs,z.l.length<=64
 apart:∀z∈hs,z.l≠[]->∀b,z.A.map (·.block)=Option.some b->O.map (·.block)≠Option.some b
theorem RsI.len {wr:World}{base gD:Nat}{ls:List (List Sp)}{E:List Int}{top:Int}{i:Nat}{O:Option Addr}{cO:Nat}{hs:List Hs}(h:RsI wr base gD ls E top i O cO hs):hs.length<=i:=by
 have:=congrArg List.length h.cls;rw[List.length_map,List.length_map] at this;have:=Xz ls E i;omega
theorem RsI.lls {wr:World}{base gD:Nat}{ls:List (List Sp)}{E:List Int}{top:Int}{i:Nat}{O:Option Addr}{cO:Nat}{hs:List Hs}(h:RsI wr base gD ls E top i O cO hs):LLS wr O cO hs:=by
 have hc:=QQ.caps h.own;refine⟨hc.1,by unfold maxLen;omega,h.sl,fun hn=>?_⟩;obtain⟨b,o,hA,hcell⟩:=QQ.cells h.own (by intro e;unfold QR at e;exact hn (List.map_eq_nil_iff.1 e));refine⟨b,o,hA,fun k hk=>?_⟩;have:=hcell k (by unfold QR;simpa using hk)
 simpa[QR] using this
theorem qS {w:World}{g T:Nat}{bs:List Bool}(h:Blk w g T (bs.map Value.bool).toArray){k:Nat}(hk:k<bs.length):w.cell? ⟨g,k,none⟩=some (.bool bs[k])/\w.frozen? ⟨g,k,none⟩=false:=by
 refine⟨by rw[h.cell];simp[hk],?_⟩;exact h.frz k
theorem GF {w:World}{g T:Nat}{bs:List Bool}(h:Blk w g T (bs.map Value.bool).toArray)(k:Nat)(b:Bool):Blk (w.setCell ⟨g,k,none⟩ (.bool b)) g T ((bs.set k b).map Value.bool).toArray:=by
 have:=h.set k (.bool b)
 rwa [List.setIfInBounds_toArray,<-List.map_set] at this
theorem cJ {w:World}{g T:Nat}{bs:List Bool}(h:Blk w g T (bs.map Value.bool).toArray)(hl:bs.length<=maxLen):IB w (some ⟨g,0,none⟩) bs.length bs:=
 ⟨Nat.le_refl _,hl,fun _=>⟨g,0,rfl,fun i hi=>by rw[h.cell];simp[hi]⟩⟩
theorem RsI.push {wr w5 w6 w8:World}{base gD:Nat}{ls:List (List Sp)}{E:List Int}{top:Int}{i:Nat}{O:Option Addr}{cO:Nat}{hs:List Hs}(h:RsI wr base gD ls E top i O cO hs)
 (hi:i<E.length) (hk:vec ls E[i]∉Qj ls E i) (k:KpP (·=gD) wr w5) (dn:Blk w5 gD 4 ((ZY (dnE ls E (i+1)) (dnE ls E (i+1)) E.length 0).map Value.bool).toArray) (x:Ext w5 w6)
 {S:Option Addr} {cS:Nat} {out:List Sp} (hS:SL w6 S cS out) (hf:Fr w5 S) (ho:out=Go.Proofs.YtmocoldobnimfaaGreat.cls E top (fun y=>decide (vec ls y=vec ls E[i]))) (h64:out.length<=64) {cs:Array Value} {T:Nat}
 {O':Option Addr} {cO':Nat} (hg:(w6.alloc (.cells cs T)).grownBy w8 (O.map (·.block))) (how:QQ w8 base 23 1 O' (hs.length+1) cO' (QR hs++[.slice S out.length cS]))
 (hat:O'.map (·.block)=O.map (·.block)\/O'.map (·.block)=Option.some (w6.alloc (.cells cs T)).heap.size):RsI w8 base gD ls E top (i+1) O' cO' (hs++[⟨S,cS,out⟩]):=by
 have own5:QQ w5 base 23 1 O hs.length cO (QR hs):=QQ.kp h.own k (fun b hb hbd=>QK h.own h.dn de (by rw[hb,hbd]));have x6:=x.trans (Ext.alloc w6 (.cells cs T));have own6:=QQ.ext own5 x6;have kg:=KpP.of_grown hg;have sl6:∀z∈hs,SL (w6.alloc (.cells cs T)) z.A z.c z.l:=fun z hz=>(SL.kp (h.sl z hz) k (SL.ne_bool (h.sl z hz) h.dn)).ext x6;refine⟨kg.blk (dn.ext x6) (QK own6 (dn.ext x6) de),?_,?_,?_,?_,?_⟩
 ·rw[List.length_append,List.length_singleton];have e:QR (hs++[⟨S,cS,out⟩])=QR hs++[.slice S out.length cS]:=by simp[QR]
  rw[e];exact how
 ·intro z hz;rcases List.mem_append.1 hz with hz|hz
  ·exact SL.kp (sl6 z hz) kg (fun hn b hb=>h.apart z hz hn b hb)
  ·obtain rfl:=List.mem_singleton.1 hz;refine SL.kp (hS.ext (Ext.alloc _ _)) kg (fun hn b hb hob=>?_);have h1:=hf b hb;have h2:=(QQ.blt own5 hob).1;omega
 ·rw[jT hi hk,List.map_append,List.map_append,h.cls,ho];rfl
 ·intro z hz;rcases List.mem_append.1 hz with hz|hz
  ·exact h.ok z hz
  ·obtain rfl:=List.mem_singleton.1 hz;exact h64
 ·intro z hz hn b hb;rcases hat with hat|hat
  ·rw[hat];rcases List.mem_append.1 hz with hz|hz
   ·exact h.apart z hz hn b hb
   ·obtain rfl:=List.mem_singleton.1 hz;intro hob;have h1:=hf b hb;have h2:=(QQ.blt own5 hob).1;omega
  ·rw[hat];intro he;have he2:(w6.alloc (.cells cs T)).heap.size=b:=by injection he
   rcases List.mem_append.1 hz with hz|hz
   ·have:=SL.blt (sl6 z hz) hn hb;omega
   ·obtain rfl:=List.mem_singleton.1 hz;have:=SL.blt (hS.ext (Ext.alloc w6 (.cells cs T))) hn hb;omega
theorem fN {P:Prop} (h:P:=by
 clear HV0
 go_wp2_with fail
 exact bodyPost_ret (v:=.tuple #[.slice none 0 0,.int .i64 5]) (by simp[results,Tryz.results75,go_sem]) rfl ⟨none,0,[],by rw[HSP.out];rfl,LLS.nil _,by rw[HSP.out,if_neg de];rfl,x1⟩):P:=h
theorem fO {P:Prop} (h:P:=by
 go_wp2_with fail
 go_roundw
 case rel=>exact⟨k+1,by go_num,om,om,HF3.out,HK3.out,HX3.out⟩
 case measure=>simp[intOf];omega):P:=h
theorem I2 (A:Option Addr)(c:Nat)(ls:List Hs)(top:Int)(w:World)(hl:LLS w A c ls)(ht64:I64 top)(hnl:ls.length<=1024)(hlen:(ls.map (·.l)).flatten.length<=10000)(hE:(QI top (ls.map (·.l))).length<=1000) :
 Calls Tryz.prog 75 #[.slice A ls.length c,.int .i64 top] w (Gy (ls.map (·.l)) top w):=by
 have hcap:=hl.len;have HVB:=fun(i:Nat) (hi:i<ls.length) (h0:∀j (hj:j<ls.length),j<i->QG ls[j].l=0) (h:QG ls[i].l≠0)=>lh (show JB (ls.map (·.l))=QG ls[i].l by
  have:=yz (ls:=ls.map (·.l)) (i:=i) (by simpa using hi) (fun j hj hji=>by simpa using h0 j (by simpa using hj) hji) (by simpa using h)
  simpa using this)
 have HVO:=fun(h0:∀j (hj:j<ls.length),QG ls[j].l=0)=>lh (show JB (ls.map (·.l))=0 from CZ (fun j hj=>by simpa using h0 j (by simpa using hj)));go_enter Tryz.func75,Tryz.ntmps75
 go_wp2_with fail
 go_loopw [6] (fun v wr=>∃i:Nat,v=.int .i64 i/\i<=ls.length/\Hid (∀j (hj:j<ls.length),j<i->QG ls[j].l=0)/\Ext w wr) (fun v _=>ls.length-(intOf v).toNat)
 case atStart=>exact⟨0,rfl,om,fun j _ hj=>absurd hj (Nat.not_lt_zero _),Ext.rfl' _⟩
 case round=>
  obtain⟨i,rfl,hi,HI,x1⟩:=hrel;by_cases hlt:i<ls.length
  ·have hiI:(i:Int)<ls.length:=om;obtain⟨pb,po,rfl,g0⟩:=(hl.ext x1).get hlt;have hsl:=(hl.sl _ (List.getElem_mem hlt)).ext x1;have HV:=fun(W':World) (x:Ext wr W')=>lh (AW _ _ _ W' (hsl.ext x));have HI2:=lh (show QG ls[i].l=0->∀j (hj:j<ls.length),j<i+1->QG ls[j].l=0 from fun h j hj hji=>by
    rcases Nat.lt_or_ge j i with h1|h1
    ·exact HI.out j hj h1
    ·have:j=i:=om;subst this;exact h)
   have HB:=HVB i hlt HI.out;by_cases hv:QG ls[i].l=0
   ·have HI3:=lh (HI2.out hv);rw[hv] at HV;generalize ls[i]=hh at *;obtain⟨hA,hc,hl2⟩:=hh
    simp only at g0 HV
    clear HI2 HB HVB HVO HI
    go_wp2_with fail
    refine(HV _ (Ext.rfl' _)).out.mono ?_;rintro e w2 ⟨rfl,x2⟩;have x3:=x1.trans x2;clear HV g0 hsl
    go_wp2_with fail
    go_roundw
    case rel=>exact⟨i+1,by go_num,om,HI3,x3⟩
    case measure=>simp[intOf];omega
   ·have HB2:=HB hv;have HSP:=lh (show W1 (ls.map (·.l)) top=QG ls[i].l by rw[Ax (by rw[HB2.out];exact hv),HB2.out]);generalize hve:QG ls[i].l=ve at *;have hvb:(ve != 0)=true:=by simpa using hv
    clear hve HB HB2 HI2 HVB HVO HI;generalize ls[i]=hh at *;obtain⟨hA,hc,hl2⟩:=hh
    simp only at g0 HV
    go_wp2_with fail
    refine(HV _ (Ext.rfl' _)).out.mono ?_;rintro e w2 ⟨rfl,x2⟩;have x3:=x1.trans x2;clear HV g0 hsl
    go_wp2_with fail
    exact bodyPost_ret (v:=.tuple #[.slice none 0 0,.int .i64 ve]) (by simp[results,Tryz.results75,go_sem]) rfl ⟨none,0,[],by rw[HSP.out];rfl,LLS.nil _,by rw[HSP.out,if_neg hv];rfl,x3⟩
  ·have hiI:¬(i:Int)<ls.length:=om;have HV0:=HVO (fun j hj=>HI.out j hj om);clear HI HVO HVB;by_cases ht:top<0
   ·have HSP:=lh (qv HV0.out (.inl ht));exact fN
   ·by_cases ht2:1114111<top
    ·have HSP:=lh (qv HV0.out (.inr ht2));exact fN
    ·have HSE:=lh (DN HV0.out (show ¬(top<0\/1114111<top) by omega));have HVA:=lh (show ∀h∈ls,OkL h.l from fun h hh=>(Yw (vF HV0.out _ (List.mem_map_of_mem hh))).1);have hn1:¬(1024:Int)<ls.length:=om;have HEN:=lh (SF A c ls top wr (hl.ext x1) (fun h hh=>(KH (HVA.out h hh)).2) om);have HEO:=lh (jx (top:=top) om (ls:=ls.map (·.l)) (fun s hs=>by
      obtain⟨a,ha,hs⟩:=List.mem_flatten.1 hs;obtain⟨h,hh,rfl⟩:=List.mem_map.1 ha;have:=(KH (HVA.out h hh)).2 s hs;unfold QH at this;omega))
     have hELN:=hE;have HCL:Hid (classes (ls.map (·.l)) top=(Qj (ls.map (·.l)) (QI top (ls.map (·.l))) (QI top (ls.map (·.l))).length).map (fun v=>cls (QI top (ls.map (·.l))) top (fun x=>decide (vec (ls.map (·.l)) x=v)))):=rfl;have HAL:=fun(x y:Int) (W':World) (h:LLS W' A c ls)=>lh (MG A c ls x y W' h);simp only[NQ] at HAL;clear HV0;generalize hLS:ls.map (·.l)=LS at *;have HLS:=lh hLS;clear hLS;generalize QI top LS=E at *
     go_wp2_with fail
     refine HEN.out.mono ?_;rintro e w2 ⟨RA,rc,rfl,iE,x2⟩;clear HEN;have X1:=x1.trans x2;have hel:=iE.len;have hmB:=BE E.length om;obtain⟨bs0,hb0⟩:∃bs0,bs0=List.replicate E.length false:=⟨_,rfl⟩
     rw[<-hb0] at hmB;have HB0:=lh hb0;clear hb0;have bB:=Blk.new w2 4 (bs0.map Value.bool).toArray;have eB:=Ext.alloc w2 (.cells (bs0.map Value.bool).toArray 4)
     go_upto_region 13 with fail
     obtain⟨gD,hgD⟩:∃gD,gD=w2.heap.size:=⟨_,rfl⟩
     rw[<-hgD] at bB ⊢;have HGD:=lh (show w2.heap.size<=gD from Nat.le_of_eq hgD.symm);generalize w2.alloc (.cells (bs0.map Value.bool).toArray 4)=w3 at *;rw[HB0.out,cW LS E] at bB;have HR0:=lh (show RsI w3 w2.heap.size gD LS E top 0 none 0 [] from⟨bB,QQ.nil _ _ _ _,by simp,rfl,by simp,by simp⟩);clear bB hgD hmB x1 x2
     go_wp2_with fail
     go_loopw [10,11] (fun v10 v11 wr=>∃(i:Nat) (O:Option Addr) (cO:Nat) (hs:List Hs),v11=.int .i64 i/\i<=E.length/\v10=.slice O hs.length cO/\Hid (RsI wr w2.heap.size gD LS E top i O cO hs)/\Ext w2 wr) (fun _ v _=>E.length-(intOf v).toNat)
     case atStart=>exact⟨0,none,0,[],rfl,om,rfl,HR0.out,eB⟩
     case round=>
      clear HR0 eB;obtain⟨i,O,cO,hs,rfl,hi,rfl,HX,x4⟩:=hrel;by_cases hiE2:i<E.length
      ·have hiI2:(i:Int)<E.length:=om;have hd0:wr.cell? ⟨gD,i,none⟩=some (.bool (dnE LS E i i)):=by
        rw[HX.out.dn.cell];have h1:i<(ZY (dnE LS E i) (dnE LS E i) E.length 0).length:=by rw[WU];exact hiE2
        simp[h1,K0 hiE2]
       by_cases hk:vec LS E[i]∈Qj LS E i
       ·have hdt:dnE LS E i i=true:=by unfold dnE;rw[JC hiE2,decide_eq_true hk]
        rw[hdt] at hd0;have HX2:=lh (show RsI wr w2.heap.size gD LS E top (i+1) O cO hs from⟨by rw[cZ hiE2 hk];exact HX.out.dn,HX.out.own,HX.out.sl,by rw[jS hiE2 hk];exact HX.out.cls,HX.out.ok,HX.out.apart⟩);clear HX hdt hk
        go_wp2_with fail
        go_roundw
        case rel=>exact⟨i+1,O,cO,hs,by go_num,om,rfl,HX2.out,x4⟩
        case measure=>simp[intOf];omega
       ·have hdf:dnE LS E i i=false:=by unfold dnE;rw[JC hiE2,decide_eq_false hk]
        rw[hdf] at hd0;have HK:=lh hk;clear hdf hk;have hmB:=BE E.length om
        rw[<-HB0.out] at hmB;have bI:=Blk.new wr 4 (bs0.map Value.bool).toArray;have eI:=Ext.alloc wr (.cells (bs0.map Value.bool).toArray 4)
        go_upto_region 19 with fail
        obtain⟨gI,hgI⟩:∃gI,gI=wr.heap.size:=⟨_,rfl⟩
        rw[<-hgI] at bI ⊢;have HGI:=lh (show wr.heap.size<=gI from Nat.le_of_eq hgI.symm);have bD:=HX.out.dn.ext eI;generalize wr.alloc (.cells (bs0.map Value.bool).toArray 4)=w5 at *;rw[HB0.out,TI LS E i] at bI;rw[TL LS E i] at bD;have HII:=lh (show Blk w5 gI 4 ((ZY (inF LS E i) (fun _=>false) E.length i).map Value.bool).toArray/\Blk w5 gD 4 ((ZY (dnF LS E i) (dnE LS E i) E.length i).map Value.bool).toArray from⟨bI,bD⟩);have hne:gI≠gD:=by
         have:=HX.out.dn.lt;have:=HGI.out;omega
        have HKI:=lh (KpP.of_ext (p:=(·=gD)) eI);have x5:=x4.trans eI;clear bI bD hgI hmB eI hd0
        go_wp2_with fail
        go_loopw [13] (fun v13 wk=>∃(k:Nat),v13=.int .i64 k/\k<=E.length/\i<=k/\Hid (Blk wk gI 4 ((ZY (inF LS E i) (fun _=>false) E.length k).map Value.bool).toArray/\Blk wk gD 4 ((ZY (dnF LS E i) (dnE LS E i) E.length k).map Value.bool).toArray)/\Hid (KpP (·=gD) wr wk)/\Ext w2 wk) (fun v _=>E.length-(intOf v).toNat)
        case atStart=>exact⟨i,rfl,om,Nat.le_refl _,HII.out,HKI.out,x5⟩
        case round=>
         clear HII HKI x5;obtain⟨k,rfl,hk,hik,HB,HKP,x6⟩:=hrel;by_cases hkt:k<E.length
         ·have hkI:(k:Int)<E.length:=om;obtain⟨pa,qa,hAe,g1⟩:=(iE.ext x6).get hiE2;obtain⟨pa2,qa2,hAe2,g2⟩:=(iE.ext x6).get hkt;have hpa:pa<w2.heap.size:=iE.blt (by intro e;rw[e] at hkt;simp at hkt) (by rw[hAe];rfl);subst hAe;obtain⟨rfl,rfl⟩:pa=pa2/\qa=qa2:=by injection hAe2 with h1;injection h1 with h2 h3 h4;exact⟨h2,h3⟩
          clear hAe2;have hpI:pa≠gI:=by
           have h1:=HGI.out;have h2:=x4.size;omega
          have HA2:=fun(W':World) (x:Ext wr W')=>HAL E[i] E[k] W' (((hl.ext X1).ext x6).ext x);have h_in:decide (vec LS E[i]=vec LS E[k])=inF LS E i k:=by
           unfold inF alE;rw[decide_eq_true hik,Bool.true_and,JC hiE2,JC hkt]
          simp only[h_in] at HA2;have c1:=(qS HB.out.1 (k:=k) (by rw[WU];exact hkt)).2;have c2:=(qS HB.out.1 (k:=k) (by rw[WU];exact hkt)).1;have HM1:=lh (GC (f:=inF LS E i) (g:=fun _=>false) hkt);have HM2:=lh (GC (f:=dnF LS E i) (g:=dnE LS E i) hkt);have HD1:=lh (show(ZY (dnF LS E i) (dnE LS E i) E.length k)[k]'(by rw[WU];exact hkt)=dnE LS E i k by rw[K0 hkt,if_neg (Nat.lt_irrefl _)]);have HDI:=lh (show(ZY (inF LS E i) (fun _=>false) E.length (k+1))[k]'(by rw[WU];exact hkt)=inF LS E i k by rw[K0 hkt,if_pos (Nat.lt_succ_self _)]);have HD2:Hid (dnF LS E i k=(dnE LS E i k || inF LS E i k)):=rfl;have c3:=(qS HB.out.2 (k:=k) (by rw[WU];exact hkt)).1;rw[HD1.out] at c3;generalize inF LS E i k=ik at *;generalize dnE LS E i k=dk at *;generalize dnF LS E i k=fk at *;generalize E[i]=x at *;generalize E[k]=y at *;generalize (ZY (inF LS E i) (fun _=>false) E.length k)[k]'(by rw[WU];exact hkt)=b0 at *;have k0:=fun(w':World) (h:Kp [gI] wr w')=>h.cell g1 (by simpa using hpI);have k1:=fun(w':World) (h:Kp [gI] wr w')=>h.cell g2 (by simpa using hpI);have hzI:=HB.out.1.lt;clear h_in
          go_upto_region 22 with fail
          refine Xr.start [gI] kr ?_;refine Xtk 0 ?_
          iterate 10(refine Xtn ?_)
          refine Xcl 11 fun y1 hE1 hK1 K hKK=>?_;go_simp;refine(HA2 _ hE1).out.mono ?_;rintro e y2 ⟨rfl,z2⟩;refine hKK _ _ z2 ?_;clear hKK HA2;refine ptm ?_;refine Xtk 12 ?_;refine Xsp 13 fun y3 hE3 hK3 K hKK=>?_;have z3:=(hE1.trans z2).trans hE3;have HB3:=lh (show Blk y3 gI 4 ((ZY (inF LS E i) (fun _=>false) E.length k).map Value.bool).toArray/\Blk y3 gD 4 ((ZY (dnF LS E i) (dnE LS E i) E.length k).map Value.bool).toArray from⟨HB.out.1.ext z3,HB.out.2.ext z3⟩);replace c2:=z3.cell c2;have f3:=HB3.out.1.frz k;go_simp;refine hKK _ _ (QM (Q4 _ _ _) List.mem_cons_self _ _) (hK3.setL List.mem_cons_self _ _) ?_;clear hKK;refine ptm ?_;refine Xdn fun y4 hE4 hK4=>?_;have HB4:=lh (show Blk y4 gI 4 ((ZY (inF LS E i) (fun _=>false) E.length (k+1)).map Value.bool).toArray/\Blk y4 gD 4 ((ZY (dnF LS E i) (dnE LS E i) E.length k).map Value.bool).toArray from⟨by
           have:=(GF HB3.out.1 k ik).ext hE4;rw[HM1.out] at this;exact this,(HB3.out.2.far hne.symm _).ext hE4⟩)
          have HKP4:=lh (KpP.thenKp HKP.out hK4 (fun i hi=>.inr (by
           obtain rfl:=List.mem_singleton.1 hi;exact HGI.out)))
          have x64:=x6.kp (KpP.kp hK4 (p:=(·=gI)) (fun i hi=>List.mem_singleton.1 hi)) (fun i hi=>by
           have h1:=HGI.out;have h2:=x4.size;omega)
          have d0:=(qS HB4.out.2 (k:=k) (by rw[WU];exact hkt)).1;rw[HD1.out] at d0;have d1:=HB4.out.2.frz k;have c4:=(qS HB4.out.1 (k:=k) (by rw[WU];exact hkt)).1;rw[HDI.out] at c4;have HFIN:=lh (show ∀v,v=fk->(Blk (y4.setCell ⟨gD,k,none⟩ (.bool v)) gI 4 ((ZY (inF LS E i) (fun _=>false) E.length (k+1)).map Value.bool).toArray/\Blk (y4.setCell ⟨gD,k,none⟩ (.bool v)) gD 4 ((ZY (dnF LS E i) (dnE LS E i) E.length (k+1)).map Value.bool).toArray) from fun v hv=>by
           subst hv;refine⟨HB4.out.1.far hne _,?_⟩;have:=GF HB4.out.2 k v;rw[HM2.out] at this;exact this)
          have HKF:=fun(v:Bool)=>lh (KpP.set HKP4.out (x:=⟨gD,k,none⟩) (Or.inl rfl) (Value.bool v));have HXF:=fun(v:Bool)=>lh (x64.setNew (p:=⟨gD,k,none⟩) HGD.out (Value.bool v));clear HB HB3 HB4 HKP HKP4 x64 x6 hE1 hK1 hE3 hK3 hE4 hK4 z2 z3 k0 k1 g1 g2 c1 c2 c3 f3 hzI HM1 HM2 HD1 hpa hpI;cases dk
          ·have HF3:=lh (HFIN.out ik (by rw[HD2.out];rfl));have HK3:=HKF ik;have HX3:=HXF ik;clear HFIN HKF HXF HD2;exact fO
          ·have HF3:=lh (HFIN.out true (by rw[HD2.out];rfl));have HK3:=HKF true;have HX3:=HXF true;clear HFIN HKF HXF HD2 c4;exact fO
         ·have hkI:¬(k:Int)<E.length:=om;obtain rfl:k=E.length:=om;have hin:=HB.out.1;have hdn:=HB.out.2;rw[fL hiE2 HK.out] at hin;rw[fM hiE2 HK.out] at hdn;have HDN:=lh hdn;have hib:=cJ hin (by rw[List.length_map];unfold maxLen;omega);rw[List.length_map] at hib;have HOF:=lh (eC RA (some ⟨gI,0,none⟩) rc E.length E (fun y=>decide (vec LS y=vec LS E[i])) top wr (iE.ext x6) hib HEO.out.ends HEO.out.head om om);have H4:64<(cls E top (fun y=>decide (vec LS y=vec LS E[i]))).length->Hid (W1 LS top=4):=fun h=>lh (by
           rw[HSE.out,if_pos];rw[List.any_eq_true,HCL.out];refine⟨_,List.mem_map.2 ⟨vec LS E[i],?_,rfl⟩,decide_eq_true h⟩;have:=j8 (ls:=LS) (E:=E) (k:=i) E.length hiE2;rw[JC hiE2] at this;exact this)
          obtain⟨out,hout⟩:∃out,out=cls E top (fun y=>decide (vec LS y=vec LS E[i])):=⟨_,rfl⟩
          rw[<-hout] at HOF H4;have HOUT:=lh hout;obtain⟨i0,hi0,hz0,hz1,hz2⟩:=info_parts vG;have hhl:=HX.out.len;have hown:=lh (show QQ wr w2.heap.size 23 1 O hs.length cO (QR hs) from QQ.kp HX.out.own HKP.out (fun b hb hbd=>QK HX.out.own HX.out.dn de (by rw[hb,hbd])));clear hin hdn hib hout HB
          go_wp2_with fail
          refine HOF.out.mono ?_;rintro e w6 (⟨h64,rfl,x7⟩|⟨h64,S,cS,rfl,hS,x7,hf⟩)
          ·have HS4:=H4 h64;clear H4 HOF;have XE:=(X1.trans x6).trans x7
           go_wp2_with fail
           exact bodyPost_ret (v:=.tuple #[.slice none 0 0,.int .i64 4]) (by simp[results,Tryz.results75,go_sem]) rfl (by rw[HLS.out];exact⟨none,0,[],by rw[HS4.out];rfl,LLS.nil _,by rw[HS4.out,if_neg de];rfl,XE⟩)
          ·clear H4 HOF;have x67:=x6.trans x7;have HPU:=fun(w8:World) (O':Option Addr) (cO':Nat) hg how hat=>lh (RsI.push (w8:=w8) (O':=O') (cO':=cO') (cs:=#[.slice S out.length cS]) (T:=23) HX.out hiE2 HK.out HKP.out HDN.out x7 hS hf HOUT.out h64 hg how hat);have hown6:=lh (QQ.ext hown.out x7);clear HX HKP HDN hown HOUT hS hf
           go_wp2_with ((at_builtin;refine Qv _ rfl _ _ _ rfl w2.heap.size 23 i0 (.slice none 0 0) 1 24 Tryz.underlying125 hi0 hz0 hz1 hz2 rfl om O hs.length cO (QR hs) rfl (QQ.ext hown6.out (Ext.alloc _ _)) _ 1 1 [.slice S out.length cS] rfl rfl (QC (Blk.new _ _ _)) (by intro u hu;obtain rfl:=List.mem_singleton.1 hu;rfl) um om (x67.trans (Ext.alloc _ _)).size ?_;intro E2 cE2 w8 ho8 hg8 hat8))
           have HR2:=HPU w8 E2 cE2 hg8 ho8 hat8;have x8:=Ext.app (x67.trans (Ext.alloc _ _)) (QQ.ext hown6.out (Ext.alloc _ _)) hg8;have HLN:=lh (show(hs++[(⟨S,cS,out⟩:Hs)]).length=hs.length+1 by simp);clear HPU hown6 ho8 hg8 hat8;go_roundw
           case rel=>exact⟨i+1,E2,cE2,hs++[(⟨S,cS,out⟩:Hs)],by go_num,om,by rw[HLN.out],HR2.out,x8⟩
           case measure=>simp[intOf];omega
      ·have hie:i=E.length:=om;have hiI2:¬(i:Int)<E.length:=om;have hoL:=HX.out.len;have hoI:¬(1024:Int)<hs.length:=om;have HLL:=lh HX.out.lls;have HCS:=lh (show hs.map (·.l)=classes LS top by rw[HCL.out,<-hie];exact HX.out.cls);have HS0:=lh (show W1 LS top=0 by
        rw[HSE.out,<-HCS.out,if_neg];intro h;rw[List.any_eq_true] at h;obtain⟨a,ha,h⟩:=h;obtain⟨z,hz,rfl⟩:=List.mem_map.1 ha;have:=HX.out.ok z hz;have:=of_decide_eq_true h;omega)
       clear HX hie
       go_wp2_with fail
       exact bodyPost_ret (v:=.tuple #[.slice O hs.length cO,.int .i64 0]) (by simp[results,Tryz.results75,go_sem]) rfl (by rw[HLS.out];exact⟨O,cO,hs,by rw[HS0.out],HLL.out,by rw[HS0.out,if_pos rfl];exact HCS.out,X1.trans x4⟩)
end
