/- Texts of this proof: OD OE I1 O3 O4 OF. -/
import Derived.Test.YtmgpefenkilffaaGreatSW21
import Derived.Test.YtmgpefenkilffaaGreatSW24
import Derived.Test.YtmgpefenkilffaaGreatSW27
set_option linter.all false
set_option maxRecDepth 100000
set_option maxHeartbeats 8000000
namespace Go.Proofs.YtmgpefenkilffaaGreat
section
open Go.RowKit
attribute [local go_sem ↓] Go.wp_at_zero Go.wp_at_succ
theorem ODz1 {P:Prop} (h:P:=by
 go_wp2_with fail
 exact bodyPost_end (v:=.tuple #[]) (by simp[results,Tryz.results164,go_sem]) rfl ⟨_,A4,c4,rfl,HC5.out,HT5.out,by simp,by simp;omega⟩):P:=h
end
section
open Go.RowKit
theorem PnAt.lt {bd:Nat}{w:World}{b o d:Nat}(h:PnAt bd w b o d):b<w.heap.size:=by
 obtain⟨n,h1,_⟩:=h;exact World.block_lt_of_cell? _ _ h1.c8.1
end
section
open Go.RowKit
attribute [local go_sem ↓] Go.wp_at_zero Go.wp_at_succ
theorem sets8_sp {l:List Sp}(h:l∈sets8):l.length<=2/\(∀i (h:i<l.length),0<=l[i].1/\l[i].1<=l[i].2/\l[i].2<=255)/\∀(h:1<l.length),l[0].2+2<=l[1].1:=by
 have key:∀m∈sets8,m.length<=2/\(∀s∈m,0<=s.1/\s.1<=s.2/\s.2<=255)/\∀a b,m=[a,b]->a.2+2<=b.1:=by
  intro m hm;simp only[sets8,List.mem_cons,List.not_mem_nil,or_false] at hm;rcases hm with rfl|rfl|rfl|rfl|rfl|rfl|rfl|rfl<;>refine⟨by simp,by simp,?_⟩<;>rintro⟨a1,a2⟩ ⟨b1,b2⟩ e<;>simp at e<;>(try omega)
 obtain⟨k1,k2,k3⟩:=key l h;refine⟨k1,fun i hi=>k2 _ (List.getElem_mem hi),fun h1=>?_⟩
 match l,k1,h1,k3 with
 | [a,b],_,_,k3=>exact k3 a b rfl
theorem hspans_G (w:World)(A:Option Addr)(c:Nat)(l:List Sp)(top:Int)(hs:SL w A c l)(ho:l∈sets8)(ht:255<=top/\top<=1114111):Calls Tryz.prog 218 #[.slice A l.length c,.int .i64 top] w (RetV (.bool true) w):=by
 obtain⟨hl2,hrg,hgap⟩:=sets8_sp ho;have hlc:=hs.len;have HS:=lh hs;have HR:=lh hrg;have HGP:=lh hgap;clear hs ho hrg hgap;go_enter Tryz.func218,Tryz.ntmps218
 go_upto_region 4 with fail
 go_loopw [12] (fun v wr=>∃i:Nat,v=.int .i64 i/\i<=l.length/\Ext w wr) (fun v _=>l.length-(intOf v).toNat)
 case atStart=>exact⟨0,rfl,om,Ext.rfl' _⟩
 case round=>
  obtain⟨i,rfl,hi,x1⟩:=hrel;by_cases hlt:i<l.length
  ·obtain⟨sb,so,rfl,c0,c1⟩:=(HS.out.ext x1).get hlt;obtain⟨r1,r2,r3⟩:=HR.out i hlt;have HX1:=lh x1;have hprev:∀(hp:0<i),∃y,y<=255/\0<=y/\y+2<=l[i].1/\wr.cell? ⟨sb,so+(i-1)*2+1,none⟩=some (.int .i64 y):=fun hp=>by
    obtain⟨sb',so',e,_,c1'⟩:=(HS.out.ext x1).get (k:=i-1) om;injection e with e;injection e with e1 e2;subst e1 e2
    have h2:=HR.out (i-1) om;obtain rfl:i=1:=om;exact⟨_,h2.2.2,om,HGP.out hlt,c1'⟩
   generalize l[i].1=lo at *;generalize l[i].2=hi2 at *;have HP:=lh hprev;clear x1 hprev
   go_upto_region 6 with fail
   have XN:=Ext.alloc wr (.cells #[.int .i64 lo,.int .i64 hi2] 81);have BN:=Blk.new wr 81 #[.int .i64 lo,.int .i64 hi2];obtain⟨g,hg⟩:∃g,g=wr.heap.size:=⟨_,rfl⟩
   rw[<-hg] at BN ⊢;clear hg;generalize wr.alloc (.cells #[.int .i64 lo,.int .i64 hi2] 81)=w5 at *;obtain⟨e0,e1,_⟩:=BN.c2;have d0:=kc0 e0;have d1:=kc0 e1;have HXN:=lh (HX1.out.trans XN);have h1:¬lo<0:=om;have h2:¬hi2>top:=om;have h3:¬top<hi2:=om;have h4:¬hi2<lo:=om;clear c0 c1 e0 e1 BN;rcases Nat.eq_zero_or_pos i with h0|h0
   ·subst h0;clear XN HP;refine Xr.start [] kr ?_;refine Xtk 0 ?_
    iterate 3(refine Xtn ?_)
    iterate 5(first|refine Xtn ?_|refine Xsn ?_)
    iterate 2(refine Xtn ?_)
    iterate 4(first|refine Xtn ?_|refine Xsn ?_)
    iterate 2(refine Xtn ?_)
    iterate 14(first|refine Xtn ?_|refine Xsn ?_)
    refine Xtn ?_;refine Xdn fun w6 hE6 hK6=>?_;have HX6:=HXN.out.trans hK6.nil;clear d0 d1
    go_wp2_with fail
    go_roundw
    case rel=>exact⟨1,by go_num,om,HX6⟩
    case measure=>simp[intOf];omega
   ·obtain⟨y,y1,y2,y3,yc⟩:=HP.out h0;obtain rfl:i=1:=om;have yc2:w5.cell? ⟨sb,so+1,none⟩=some (.int .i64 y):=by have:=XN.cell yc;simpa using this
    have d2:=kc0 yc2;have hw:IntKind.i64.wrap (y+2)=y+2:=wj;have hw0:IntKind.i64.wrap 0=0:=by rfl
    have h5:(0:Int)<(l.length:Int):=om;have h6:0<l.length:=om;have h7:¬lo<y+2:=om;clear XN HP yc yc2;refine Xr.start [] kr ?_;refine Xtk 0 ?_
    iterate 3(refine Xtn ?_)
    iterate 5(first|refine Xtn ?_|refine Xsn ?_)
    iterate 2(refine Xtn ?_)
    iterate 4(first|refine Xtn ?_|refine Xsn ?_)
    iterate 2(refine Xtn ?_)
    iterate 14(first|refine Xtn ?_|refine Xsn ?_)
    refine Xtn ?_;refine Xdn fun w6 hE6 hK6=>?_;have HX6:=HXN.out.trans hK6.nil;clear d0 d1 d2
    go_wp2_with fail
    go_roundw
    case rel=>exact⟨2,by go_num,om,HX6⟩
    case measure=>simp[intOf];omega
  ·have hle:(l.length:Int)<=i:=om
   go_wp2_with fail
   go_ret
   exact⟨rfl,x1⟩
theorem bndEndG {P:Prop}(h:P:=by
 refine Xr.start [] kr ?_;refine Xtk 0 ?_
 iterate 5(refine Xtn ?_)
 iterate 23(first|refine Xtn ?_|refine Xsn ?_)
 iterate 2(refine Xtn ?_)
 refine Xdn fun w6 hE6 hK6=>?_;have HX6:=hK6.nil;clear d3 d4
 go_wp2_with fail
 go_ret
 exact⟨rfl,HX6⟩):P:=h
theorem hbounded_G (w:World)(b o:Nat)(n:Nd)(hn:NdP w b o n)(h1:0<=n.mn)(h11:n.mn<=2)(h2:n.mx = -1\/(1<=n.mx/\n.mx<=3/\n.mn<=n.mx))(h3:0<=n.md/\n.md<=1):Calls Tryz.prog 219 #[.pointer (some ⟨b,o,none⟩)] w (RetV (.bool true) w):=by
 obtain⟨_,_,_,c3,c4,c5,_⟩:=hn.c8;generalize n.mn=mn at *;generalize n.mx=mx at *;generalize n.md=md at *;have e1:¬mn<0:=om;have e2:¬md<0:=om;have e3:¬md>2:=om;have e4:¬(2:Int)<md:=om;have h4:¬(32:Int)<mn:=om;have d3:=kc0 c3;have d4:=kc0 c4;have e5:¬mn>32:=om;clear hn;go_enter Tryz.func219,Tryz.ntmps219
 go_upto_region 3 with fail
 clear c3 c4 c5;by_cases g1:mx = -1
 ·subst g1;exact bndEndG
 ·have g1b:(mx == -1)=false:=by simpa using g1
  have g2:1<=mx:=om;have g2b:mx>=1:=g2;have g3:mx<=32:=om;have g4:mn<=mx:=om;have g4b:mx>=mn:=g4;exact bndEndG
theorem frmEndG {P:Prop}(h:P:=by
 go_wp2_with fail
 all_goals
  go_ret
  refine⟨rfl,?_⟩
  repeat(first|exact HX2.out|exact HX3.out|refine Ext.setNew ?_ HG.out _)):P:=h
theorem frmEndGS {P:Prop}(h:P:=by
 go_wp2_with (go_at_call 218;refine(HSP rfl w2 HX2.out).out.mono ?_;rintro e w3 ⟨rfl,x3⟩;have HX3:=lh (HX2.out.trans x3);have B3:=B2.ext x3;obtain⟨y1,y2,y3,y4,y5,y6,y7⟩:w3.cell? ⟨g,1,none⟩=some (.slice A nl c)/\w3.cell? ⟨g,2,none⟩=some (.slice none 0 0)/\w3.cell? ⟨g,3,none⟩=some (  .int .i64 0)/\w3.cell? ⟨g,4,none⟩=some (.int .i64 0)/\w3.cell? ⟨g,5,none⟩=some (.int .i64 0)/\w3.cell? ⟨g,6,none⟩=some (.int .i64 0)/\w3.cell? ⟨g,7,none⟩=some (.bool false):=⟨B3.cell 1,B3.cell 2,B3.cell 3,B3.cell 4,B3.cell 5,B3.cell 6,B3.cell 7⟩;have f31:=B3.frz 1;clear x3)
 all_goals
  go_ret
  refine⟨rfl,?_⟩
  repeat(first|exact HX2.out|exact HX3.out|refine Ext.setNew ?_ HG.out _)):P:=h
theorem frmEndGB {P:Prop}(h:P:=by
 go_wp2_with (go_at_call 219;refine(HBD rfl w2 HX2.out).out.mono ?_;rintro e w3 ⟨rfl,x3⟩;have HX3:=lh (HX2.out.trans x3);have B3:=B2.ext x3;obtain⟨y1,y2,y3,y4,y5,y6,y7⟩:w3.cell? ⟨g,1,none⟩=some (.slice A 0 c)/\w3.cell? ⟨g,2,none⟩=some (.slice none 0 0)/\w3.cell? ⟨g,3,none⟩=some (.int .i64 mn)/\w3.cell? ⟨g,4,none⟩=some (.int .i64 mx)/\w3.cell? ⟨g,5,none⟩=some (.int .i64 md)/\w3.cell? ⟨g,6,none⟩=some (.int .i64 0)/\w3.cell? ⟨g,7,none⟩=some (.bool false):=⟨B3.cell 1,B3.cell 2,B3.cell 3,B3.cell 4,B3.cell 5,B3.cell 6,B3.cell 7⟩;have f33:=B3.frz 3;have f34:=B3.frz 4;have f35:=B3.frz 5;clear x3)
 all_goals
  go_ret
  refine⟨rfl,?_⟩
  repeat(first|exact HX2.out|exact HX3.out|refine Ext.setNew ?_ HG.out _)):P:=h
theorem hformed_G (u:Int)(w:World)(b o d:Nat)(n:Nd)(T:Tm)(hg:PgN w b o d n T)(caps top:Int)(hd:GdT u caps T)(ht:255<=top/\top<=1114111):Calls Tryz.prog 157 #[.pointer (some ⟨b,o,none⟩),.int .i64 caps,.int .i64 top] w (RetV (.bool true) w):=by
 have hp:=hg.pn;have hh:=hd.at_.1;rw[hg.hd] at hh;have hnum:=hh.num;have hneg:n.neg=false:=hh.neg;simp only[Nd.hd] at hnum;have HC:Hid ((n.op=0/\n.l.length=0/\n.mn=0/\n.mx=0/\n.md=0/\n.n=0/\n.ks.length=0)\/(n.op=1/\n.mn=0/\n.mx=0/\n.md=0/\n.n=0/\n.ks.length=0)\/(n.op=2/\n.l.length=0/\n.mn=0/\n.mx=0/\n.md=0/\n.n=0/\(2:Int)<=n.ks.length)\/(n.op=3/\n.l.length=0/\n.mn=0/\n.mx=0/\n.md=0/\n.n=0/\(2:Int)<=n.ks.length)\/(n.op=4/\n.l.length=0/\n.n=0/\n.ks.length=1)\/(n.op=5/\n.l.length=0/\n.mn=0/\n.mx=0/\n.md=0/\n.ks.length=1/\1<=n.n/\n.n<=caps)\/(n.op=11/\n.l.length=0/\n.mn=0/\n.mx=0/\n.md=0/\n.ks.length=0/\0<=n.n/\n.n<=5)):=lh (by
  have hl:=hg.len;rcases hnum with⟨h0,h1,h2,h3,h4,h5,h6⟩|⟨h0,h1,h2,h3,h4,h5,h6⟩|⟨h0|h0,h1,h2,h3,h4,h5,h6,h7⟩|⟨h0,h1,_,_,h5,t,h6,_⟩|⟨h0,_,h1,h2,h3,h4,h5,h6,h7⟩|⟨h0,_,h1,h2,h3,h4,h5,h6,h7⟩
  ·rw[h6] at hl;exact .inl ⟨h0,by rw[h1];rfl,h2,h3,h4,h5,hl⟩
  ·rw[h6] at hl;exact .inr (.inl ⟨h0,h2,h3,h4,h5,hl⟩)
  ·exact .inr (.inr (.inl ⟨h0,by rw[h1];rfl,h2,h3,h4,h5,om⟩))
  ·exact .inr (.inr (.inr (.inl ⟨h0,by rw[h1];rfl,h2,h3,h4,h5,om⟩)))
  ·rw[h6] at hl;exact .inr (.inr (.inr (.inr (.inl ⟨h0,by rw[h1];rfl,h5,hl⟩))))
  ·exact .inr (.inr (.inr (.inr (.inr (.inl ⟨h0,by rw[h1];rfl,h2,h3,h4,om,h5,h6⟩)))))
  ·rw[h7] at hl;exact .inr (.inr (.inr (.inr (.inr (.inr ⟨h0,by rw[h1];rfl,h2,h3,h4,hl,h5,h6⟩))))))
 obtain⟨c0,c1,c2,c3,c4,c5,c6,c7⟩:=hp.p.c8;have HSP:=fun(h1:n.op=1) (w':World) (x':Ext w w')=>lh (hspans_G w' n.A n.c n.l top (hp.sl.ext x') (by rcases hnum with h|h|h|h|h|h;all_goals first|exact h.2.1|(exfalso;have:=h.1;omega)) ht);have HBD:=fun(h4:n.op=4) (w':World) (x':Ext w w')=>lh (hbounded_G w' b o n (hp.p.ext x') hp.ok.mn.1 (by rcases hnum with h|h|h|h|h|h;all_goals first|exact h.2.2.1.2.1|(exfalso;have:=h.1;omega)) (by rcases hnum with h|h|h|h|h|h;all_goals first|exact h.2.2.1.2.2|(exfalso;have:=h.1;omega)) hp.ok.md);have hcap:n.ks.length<=n.kc/\n.kc<=9223372036854775807:=⟨hp.le,by have:=hp.cap;unfold maxLen at this;omega⟩;have hll:=hp.sl.len;clear hp hh hnum hg hd;generalize n.op=op at *;generalize n.A=A at *;generalize n.c=c at *;generalize n.l.length=nl at *;generalize n.K=K at *;generalize n.ks.length=nk at *;generalize n.kc=kc at *;generalize n.mn=mn at *;generalize n.mx=mx at *;generalize n.md=md at *;generalize n.n=nn at *;generalize n.neg=neg at *;subst hneg;go_enter Tryz.func157,Tryz.ntmps157;have XN:=Ext.alloc w (.cells #[.int .i64 op,.slice A nl c,.slice K nk kc,.int .i64 mn,.int .i64 mx,.int .i64 md,.int .i64 nn,.bool false] 61);have BN:=Blk.new w 61 #[.int .i64 op,.slice A nl c,.slice K nk kc,.int .i64 mn,.int .i64 mx,.int .i64 md,.int .i64 nn,.bool false];obtain⟨g,hg⟩:∃g,g=w.heap.size:=⟨_,rfl⟩;have HGE:=lh hg;have HG:Hid (w.heap.size<=g):=lh om
 rw[<-hg] at BN;clear hg;have HXN:=lh XN;have HBN:=lh BN;clear XN BN
 go_upto_region 4 with fail
 all_goals
  rw[<-HGE.out];have XN:=HXN.out;have BN:=HBN.out;generalize w.alloc (.cells #[.int .i64 op,.slice A nl c,.slice K nk kc,.int .i64 mn,.int .i64 mx,.int .i64 md,.int .i64 nn,.bool false] 61)=w1 at *;have f2:=BN.frz 2;have z2:w1.cell? ⟨g,2,none⟩=some (.slice K nk kc):=BN.cell 2;have HX2:=lh (XN.setNew (p:=⟨g,2,none⟩) HG.out (.slice none 0 0));have B2:Blk (w1.setCell ⟨g,2,none⟩ (.slice none 0 0)) g 61 #[.int .i64 op,.slice A nl c,.slice none 0 0,.int .i64 mn,.int .i64 mx,.int .i64 md,.int .i64 nn,.bool false]:=Blk.set BN 2 (.slice none 0 0)
  go_upto_region 5 with fail
  generalize w1.setCell ⟨g,2,none⟩ (.slice none 0 0)=w2 at *;replace c0:=HX2.out.cell c0;replace c1:=HX2.out.cell c1;replace c6:=HX2.out.cell c6;obtain⟨z0,z1,z2',z3,z4,z5,z6,z7⟩:w2.cell? ⟨g,0,none⟩=some (.int .i64 op)/\w2.cell? ⟨g,1,none⟩=some (.slice A nl c)/\w2.cell? ⟨g,2,none⟩=some (.slice none 0 0)/\w2.cell? ⟨g,3,none⟩=some (.int .i64 mn)/\w2.cell? ⟨g,4,none⟩=some (.int .i64 mx)/\w2.cell? ⟨g,5,none⟩=some (.int .i64 md)/\w2.cell? ⟨g,6,none⟩=some (.int .i64 nn)/\w2.cell? ⟨g,7,none⟩=some (.bool false):=⟨B2.cell 0,B2.cell 1,B2.cell 2,B2.cell 3,B2.cell 4,B2.cell 5,B2.cell 6,B2.cell 7⟩;have f1:=B2.frz 1;have f3:=B2.frz 3;have f4:=B2.frz 4;have f5:=B2.frz 5;have f6:=B2.frz 6;clear f2 z2 XN BN c2 c3 c4 c5 c7;rcases HC.out with⟨rfl,rfl,rfl,rfl,rfl,rfl,rfl⟩|⟨rfl,rfl,rfl,rfl,rfl,rfl⟩|⟨rfl,rfl,rfl,rfl,rfl,rfl,hk2⟩|⟨rfl,rfl,rfl,rfl,rfl,rfl,hk2⟩|⟨rfl,rfl,rfl,rfl⟩|⟨rfl,rfl,rfl,rfl,rfl,rfl,hn1,hn2⟩|⟨rfl,rfl,rfl,rfl,rfl,rfl,hn1,hn2⟩
  ·first|(exfalso;omega)|exact frmEndG
  ·first|(exfalso;omega)|exact frmEndGS
  ·first|(exfalso;omega)|exact frmEndG
  ·first|(exfalso;omega)|exact frmEndG
  ·first|(exfalso;omega)|exact frmEndGB
  ·first|(exfalso;omega)|exact frmEndG
  ·first|(exfalso;omega)|exact frmEndG
structure VG (caps top:Int)(w:World)(gs gg gp gt gw:Nat)(k:Nat):Prop where
 s:Blk w gs 3 #[.int .i64 k]
 g:∃x,Blk w gg 4 #[.bool x]
 p:∃cs,Blk w gp 63 cs/\cs[8]? = some (.int .i64 caps)
 t:Blk w gt 3 #[.int .i64 top]
 f:Blk w gw 270 #[.func (Fn.func 156) #[] #[.pointer (some ⟨gs,0,none⟩),.pointer (some ⟨gg,0,none⟩),.pointer (some ⟨gp,0,none⟩),.pointer (some ⟨gt,0,none⟩),.pointer (some ⟨gw,0,none⟩)]]
 ne:gs≠gt
def patN (n:Nd)(caps:Int)(rn:Bool):Array Value:=#[.int .i64 n.op,.slice n.A n.l.length n.c,.slice n.K n.ks.length n.kc,.int .i64 n.mn,.int .i64 n.mx,.int .i64 n.md,.int .i64 n.n,.bool n.neg,.int .i64 caps,.bool rn]
def topI (rn:Bool):Int:=if rn=true then 1114111 else 255
theorem topN_any (w:World)(rn:Bool):Calls Tryz.prog 155 #[.bool rn] w (RetV (.int .i64 (topI rn)) w):=by
 cases rn with
 | true=>
  go_enter Tryz.func155,Tryz.ntmps155
  go_wp2
  go_ret
  exact⟨rfl,Ext.rfl' _⟩
 | false=>
  go_enter Tryz.func155,Tryz.ntmps155
  go_wp2
  go_ret
  exact⟨rfl,Ext.rfl' _⟩
theorem topI_bd (rn:Bool):255<=topI rn/\topI rn<=1114111:=by cases rn<;>decide
end
end Go.Proofs.YtmgpefenkilffaaGreat
