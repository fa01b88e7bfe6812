/- Texts of this proof: U8 C3. -/
import Derived.Test.YtmgpefenkilffaaGreatSW06
import Derived.Test.YtmgpefenkilffaaGreatSW09
set_option linter.all false
set_option maxRecDepth 100000
set_option maxHeartbeats 16000000
namespace Go.Proofs.YtmgpefenkilffaaGreat
section
open Go.RowKit
attribute [local go_sem ↓] Go.wp_at_zero Go.wp_at_succ
structure UnOk (w w':World)(a b r:Fo):Prop where
 at_:r.At w'
 nd:r.fp.Nodup
 sub:∀x∈r.fp,x∈a.fp++b.fp\/w.heap.size<=x
 pos:(r.pos (-1)).Perm (a.pos (-1)++b.pos (-1))
 kp:KpP (fun x=>x∈a.fp++b.fp) w w'
def RetUn (a b:Fo)(w:World)(e:Ending)(w':World):Prop:=∃b' p' e' A' c' k',e=.returned (.pointer (some ⟨b',0,none⟩))/\UnOk w w' a b (grp b' p' e' A' c' k')
theorem UnOk.swap {w w':World}{a b r:Fo}(h:UnOk w w' b a r):UnOk w w' a b r:=
 ⟨h.at_,h.nd,fun x hx=>(h.sub x hx).imp (fun h=>by rw[List.mem_append] at h ⊢;exact h.symm) id,h.pos.trans List.perm_append_comm,h.kp.mono (fun i hi=>by rw[List.mem_append] at hi ⊢;exact hi.symm)⟩
theorem Fo.pos_neg {e:Int}(he:e<0)(f:Fo):f.pos e=f.pos (-1):=Fo.pos_later.pos_neg (n:=0) he f
theorem fo_put {w wx w8:World}{b1:Nat}{p1 e1:Int}{A1:Option Addr}{c1:Nat}{k1:Fo}{b2:Nat}{p2 e2:Int}{A2:Option Addr}{c2:Nat}{k2:Fo}(ha:(grp b1 p1 e1 A1 c1 k1).At w)(hb:(grp b2 p2 e2 A2 c2 k2).At w)
 (hn:((grp b1 p1 e1 A1 c1 k1).fp++(grp b2 p2 e2 A2 c2 k2).fp).Nodup) (hp:p1<0) (he:e1<0\/∀x∈(grp b2 p2 e2 A2 c2 k2).pos (-1),x.2=e1) (X:Ext w wx) {A8:Option Addr} {d8:Nat}
 (hg:wx.grownBy w8 (A1.map (·.block))) (ho:OwnS w8 0 138 1 A8 (k1.len+1) d8 (k1.ptrs++[.pointer (some ⟨b2,0,none⟩)])) (hat:A8.map (·.block)=A1.map (·.block)\/A8.map (·.block)=some wx.heap.size) :
 UnOk w (w8.setCell ⟨b1,2,none⟩ (.slice A8 (k1.len+1) d8)) (grp b1 p1 e1 A1 c1 k1) (grp b2 p2 e2 A2 c2 k2) (grp b1 p1 e1 A8 d8 (k1.app (grp b2 p2 e2 A2 c2 k2))):=by
 have hb0:=hb;obtain⟨g1,o1,pk,hp1,he1,ip,ie,hk,_⟩:=ha;have ef1:(grp b1 p1 e1 A1 c1 k1).fp=b1::(blkL A1++k1.fp):=by simp[grp,Fo.fp]
 have efr:(grp b1 p1 e1 A8 d8 (k1.app (grp b2 p2 e2 A2 c2 k2))).fp=b1::(blkL A8++(k1.fp++(grp b2 p2 e2 A2 c2 k2).fp)):=by simp[grp,Fo.fp,Fo.fp_app]
 generalize hbb:grp b2 p2 e2 A2 c2 k2=fb at *;have hlen:(k1.app fb).len=k1.len+1:=by rw[Fo.len_app,<-hbb];rfl
 have hptr:(k1.app fb).ptrs=k1.ptrs++[.pointer (some ⟨b2,0,none⟩)]:=by rw[Fo.ptrs_app,<-hbb];rfl
 rw[ef1,List.cons_append,List.nodup_cons,List.append_assoc] at hn;obtain⟨n1,n2⟩:=hn;have n3:=List.nodup_append.1 n2;have kg:KpP (fun b=>A1.map (·.block)=some b) wx w8:=KpP.of_grown hg;have hA1:A1.map (·.block)≠some b1:=own_blk o1 g1 de;have hk8:k1.At w8:=(hk.ext X).kp kg (fun b hb h=>n3.2.2 b (mem_blkL.2 h) b (List.mem_append_left _ hb) rfl);have hb8:fb.At w8:=(hb0.ext X).kp kg (fun b hb h=>n3.2.2 b (mem_blkL.2 h) b (List.mem_append_right _ hb) rfl);have g8:Blk w8 b1 250 #[.int .i64 p1,.int .i64 e1,.slice A1 k1.len c1]:=kg.blk (g1.ext X) hA1;have ks:KpP (·=b1) w8 (w8.setCell ⟨b1,2,none⟩ (.slice A8 (k1.len+1) d8)):=KpP.set (p:=(·=b1)) (x:=⟨b1,2,none⟩) (KpP.refl _ _) (.inl rfl) _;have hnb:∀b∈k1.fp++fb.fp,b≠b1:=fun b hb e=>n1 (by rw[<-e];exact List.mem_append_right _ hb);have hA8:A8.map (·.block)≠some b1:=by
  rcases hat with h|h
  ·rw[h];exact hA1
  ·rw[h];intro e;injection e with e
   have:=(g1.ext X).lt;omega
 have hold:∀b∈k1.fp++fb.fp,b<w.heap.size:=fun b hb=>by
  rcases List.mem_append.1 hb with h|h
  ·exact hk.lt b h
  ·exact hb0.lt b h
 refine⟨⟨by have:=g8.set 2 (.slice A8 (k1.len+1) d8);rw[hlen];simpa using this,by rw[hlen,hptr];exact OwnS.far ho hA8 _,.inr ⟨hp,?_⟩,hp1,he1,ip,ie,?_,trivial⟩,?_,?_,?_,?_⟩
 ·intro e;have:(k1.app fb).len=0:=by rw[e];rfl
  omega
 ·exact(hk8.kp ks (fun b hb=>hnb b (List.mem_append_left _ hb))).app (hb8.kp ks (fun b hb=>hnb b (List.mem_append_right _ hb)))
 ·rw[efr,List.nodup_cons];refine⟨fun h=>?_,?_⟩
  ·rcases List.mem_append.1 h with h|h
   ·exact hA8 (mem_blkL.1 h)
   ·exact n1 (List.mem_append_right _ h)
  ·refine List.nodup_append.2 ⟨by unfold blkL;cases A8<;>simp,n3.2.1,fun a ha b hb e=>?_⟩;subst e;rcases hat with h|h
   ·exact n3.2.2 a (mem_blkL.2 (by rw[<-h];exact mem_blkL.1 ha)) a hb rfl
   ·have:=mem_blkL.1 ha;rw[h] at this;injection this with this
    have h1:=hold a hb;have h2:=X.size;omega
 ·rw[efr,ef1];intro x hx;rcases List.mem_cons.1 hx with rfl|hx
  ·exact .inl si
  ·rcases List.mem_append.1 hx with hx|hx
   ·rcases hat with h|h
    ·refine .inl ?_;have:x∈blkL A1:=mem_blkL.2 (by rw[<-h];exact mem_blkL.1 hx);simp[this]
    ·have:=mem_blkL.1 hx;rw[h] at this;injection this with this
     have h2:=X.size;exact .inr om
   ·refine .inl ?_;rcases List.mem_append.1 hx with hx|hx<;>simp[hx]
 ·have r1:(grp b1 p1 e1 A8 d8 (k1.app fb)).pos (-1)=k1.pos e1++fb.pos e1:=by rw[grp_pos,if_neg om,if_pos om,Fo.pos_app]
  have r2:(grp b1 p1 e1 A1 c1 k1).pos (-1)=k1.pos e1:=by rw[grp_pos,if_neg om,if_pos om]
  have r3:fb.pos e1=fb.pos (-1):=by
   by_cases h0:e1<0
   ·exact Fo.pos_neg h0 _
   ·rw[Fo.pos_later om];rcases he with he|he
    ·omega
    ·exact(List.map_congr_left (g:=id) (fun x hx=>by rw[<-he x hx];rfl)).trans (List.map_id _)
  rw[r1,r2,r3]
 ·refine KpP.trans (KpP.of_ext X) (KpP.trans (kg.mono (fun i hi=>?_)) (ks.mono (fun i hi=>?_)))
  ·rw[ef1];simp[mem_blkL.2 hi]
  ·subst hi;rw[ef1];simp
theorem infoGp:(Tryz.prog.info? 138).map (fun i=>(i.zero,i.size,i.bytes))=some (some (.pointer none),1,8):=by kernel_rfl
theorem fo_two {w w':World}{b1:Nat}{p1 e1:Int}{A1:Option Addr}{c1:Nat}{k1:Fo}{b2:Nat}{p2 e2:Int}{A2:Option Addr}{c2:Nat}{k2:Fo}(ha:(grp b1 p1 e1 A1 c1 k1).At w)(hb:(grp b2 p2 e2 A2 c2 k2).At w)
 (hn:((grp b1 p1 e1 A1 c1 k1).fp++(grp b2 p2 e2 A2 c2 k2).fp).Nodup) (X:Ext w w') {gS gN:Nat} (BS:Blk w' gS 138 #[.pointer (some ⟨b1,0,none⟩),.pointer (some ⟨b2,0,none⟩)]) (BN:Blk w' gN 250 #[.int .i64 (-1),.int .i64 (-1),.slice (some ⟨gS,0,none⟩) 2 2])
 (hS:w.heap.size<=gS) (hN:w.heap.size<=gN):UnOk w w' (grp b1 p1 e1 A1 c1 k1) (grp b2 p2 e2 A2 c2 k2) (grp gN (-1) (-1) (some ⟨gS,0,none⟩) 2 ((grp b1 p1 e1 A1 c1 k1).app (grp b2 p2 e2 A2 c2 k2))):=by
 have hl1:=fun b=>Fo.At.lt ha b;have hl2:=fun b=>Fo.At.lt hb b;have e1':(grp gN (-1) (-1) (some ⟨gS,0,none⟩) 2 ((grp b1 p1 e1 A1 c1 k1).app (grp b2 p2 e2 A2 c2 k2))).fp=gN::gS::((grp b1 p1 e1 A1 c1 k1).fp++(grp b2 p2 e2 A2 c2 k2).fp):=by
  unfold grp;rw[Fo.fp,Fo.fp_app];simp[blkL,Fo.fp]
 have hne:gN≠gS:=(blk_blk BS BN de).symm;have hlen:((grp b1 p1 e1 A1 c1 k1).app (grp b2 p2 e2 A2 c2 k2)).len=2:=rfl;have hptr:((grp b1 p1 e1 A1 c1 k1).app (grp b2 p2 e2 A2 c2 k2)).ptrs=[.pointer (some ⟨b1,0,none⟩),.pointer (some ⟨b2,0,none⟩)]:=rfl;have hpos:(grp gN (-1) (-1) (some ⟨gS,0,none⟩) 2 ((grp b1 p1 e1 A1 c1 k1).app (grp b2 p2 e2 A2 c2 k2))).pos (-1)=(grp b1 p1 e1 A1 c1 k1).pos (-1)++(grp b2 p2 e2 A2 c2 k2).pos (-1):=by
  rw[grp_pos,if_neg om,if_pos om,Fo.pos_app]
 have hat:=Fo.At.app (ha.ext X) (hb.ext X);refine⟨⟨by rw[hlen];exact BN,by rw[hlen,hptr];exact OwnS.of_blk (base:=0) (size:=1) (n:=2) (c:=2) BS (Nat.zero_le _) rfl (Nat.le_refl _) um,.inr ⟨om,by intro e;cases e⟩,om,om,by unfold I64;omega,by unfold I64;omega,hat,trivial⟩,?_,?_,by rw[hpos],KpP.of_ext X⟩
 ·rw[e1',List.nodup_cons,List.nodup_cons];refine⟨fun h=>?_,fun h=>?_,hn⟩
  ·rcases List.mem_cons.1 h with h|h
   ·exact hne h
   ·rcases List.mem_append.1 h with h|h
    ·have:=hl1 _ h;omega
    ·have:=hl2 _ h;omega
  ·rcases List.mem_append.1 h with h|h
   ·have:=hl1 _ h;omega
   ·have:=hl2 _ h;omega
 ·rw[e1'];intro x hx;rcases List.mem_cons.1 hx with rfl|hx
  ·exact .inr hN
  ·rcases List.mem_cons.1 hx with rfl|hx
   ·exact .inr hS
   ·exact .inl hx
theorem alike_end {w:World}{b1:Nat}{p1 e1:Int}{A1:Option Addr}{c1:Nat}{k1:Fo}(ha:(grp b1 p1 e1 A1 c1 k1).At w)(hp:p1<0){N:Int}(hN:∀x∈(grp b1 p1 e1 A1 c1 k1).pos (-1),x.2=N):e1<0\/e1=N:=by
 by_cases h:e1<0
 ·exact .inl h
 ·right
  obtain⟨_,_,pk,_,_,_,_,hk,_⟩:=ha;rw[grp_pos,if_neg om,if_pos om,Fo.pos_later om] at hN;rcases pk with⟨h1,_⟩|⟨_,h2⟩
  ·omega
  ·have hl:=Fo.len_pos (-1) hk
   cases hq:k1.pos (-1) with
   | nil=>
    rw[hq] at hl
    cases k1 with
    | nil=>exact absurd rfl h2
    | cons _ _ _ _ _ _ _=>simp[Fo.len] at hl
   | cons x t=>exact hN (x.1,e1) (by rw[hq];simp)
theorem unite_any (b1:Nat)(p1 e1:Int)(A1:Option Addr)(c1:Nat)(k1:Fo)(b2:Nat)(p2 e2:Int)(A2:Option Addr)(c2:Nat)(k2:Fo)(alike:Bool)(w:World)(ha:(grp b1 p1 e1 A1 c1 k1).At w)(hb:(grp b2 p2 e2 A2 c2 k2).At w)
 (hn:((grp b1 p1 e1 A1 c1 k1).fp++(grp b2 p2 e2 A2 c2 k2).fp).Nodup) (hl:((grp b1 p1 e1 A1 c1 k1).pos (-1)).length+((grp b2 p2 e2 A2 c2 k2).pos (-1)).length<=1000000)
 (hal:alike=true->∃N,∀x∈(grp b1 p1 e1 A1 c1 k1).pos (-1)++(grp b2 p2 e2 A2 c2 k2).pos (-1),x.2=N) :
 Calls Tryz.prog 138 #[.pointer (some ⟨b1,0,none⟩),.pointer (some ⟨b2,0,none⟩),.bool alike] w (RetUn (grp b1 p1 e1 A1 c1 k1) (grp b2 p2 e2 A2 c2 k2) w):=by
 obtain⟨iG,jG0,jG1,jG2,jG3⟩:=info_parts infoGp;have HA:=lh ha;have HB:=lh hb;have HN:=lh hn;have HE1:=lh (show p1<0->(alike=true\/e1<0)->(e1<0\/∀x∈(grp b2 p2 e2 A2 c2 k2).pos (-1),x.2=e1) from fun hp h=>by
  rcases h with h|h
  ·obtain⟨N,hN⟩:=hal h;rcases alike_end ha hp (fun x hx=>hN x (List.mem_append_left _ hx)) with h2|h2
   ·exact .inl h2
   ·exact .inr (fun x hx=>by rw[h2];exact hN x (List.mem_append_right _ hx))
  ·exact .inl h)
 have HE2:=lh (show p2<0->(alike=true\/e2<0)->(e2<0\/∀x∈(grp b1 p1 e1 A1 c1 k1).pos (-1),x.2=e2) from fun hp h=>by
  rcases h with h|h
  ·obtain⟨N,hN⟩:=hal h;rcases alike_end hb hp (fun x hx=>hN x (List.mem_append_right _ hx)) with h2|h2
   ·exact .inl h2
   ·exact .inr (fun x hx=>by rw[h2];exact hN x (List.mem_append_left _ hx))
  ·exact .inl h)
 obtain⟨g1,o1,pk1,_,_,_,_,hk1,_⟩:=ha;obtain⟨g2,o2,pk2,_,_,_,_,hk2,_⟩:=hb;have HL1:=lh (show p1<0->k1.len<=1000000 from fun hp=>by
  have h1:=Fo.len_pos (if(-1:Int)<0 then e1 else -1) hk1;rw[grp_pos,if_neg om] at hl;omega)
 have HL2:=lh (show p2<0->k2.len<=1000000 from fun hp=>by
  have h1:=Fo.len_pos (if(-1:Int)<0 then e2 else -1) hk2;rw[grp_pos (b:=b2),if_neg om] at hl;omega)
 have a0:=g1.cell 0;have a1:=g1.cell 1;have a2:=g1.cell 2;have d0:=g2.cell 0;have d1:=g2.cell 1;have d2:=g2.cell 2;have OW1:=lh o1;have OW2:=lh o2;have G1:=lh g1;have G2:=lh g2;have ca1:=OwnS.caps o1;have ca2:=OwnS.caps o2;clear hal hl hn o1 o2 g1 g2 hk1 hk2 pk1 pk2;by_cases h1:p1<0/\(alike=true\/e1<0)
 ·have hl1:=HL1.out h1.1;have HX:=lh (HE1.out h1.1 h1.2);have hne:=own_blk OW1.out G1.out de;have hq:(p1<0/\alike=true)\/(p1<0/\alike=false/\e1<0):=by
   cases alike
   ·exact .inr ⟨h1.1,rfl,by simpa using h1.2⟩
   ·exact .inl ⟨h1.1,rfl⟩
  obtain⟨hp1,-⟩:=h1;have HP1:=lh hp1;rcases hq with⟨hp,rfl⟩|⟨hp,rfl,he⟩<;>clear HE1 HE2 HL1 HL2 hp1
  all_goals
   go_enter Tryz.func138,Tryz.ntmps138
   go_upto_region 2 with fail
   go_wp2_with ((at_builtin;refine wpList_app _ rfl _ _ _ rfl 0 138 iG (.pointer none) 1 8 Tryz.underlying248 jG0 jG1 jG2 jG3 rfl om A1 k1.len c1 k1.ptrs rfl (OwnS.ext OW1.out (Ext.alloc _ _)) _ 1 1 [.pointer (some ⟨b2,0,none⟩)] rfl rfl (blk_cells (Blk.new _ _ _)) (by intro u hu;rw[List.mem_singleton.1 hu];rfl) um om (Nat.zero_le _) ?_;intro A8 d8 w8 ho8 hg8 hat8;have b8:=(KpP.of_grown hg8).blk (G1.out.ext (Ext.alloc _ _)) hne;have c8:=b8.cell 2;have f8:=b8.frz 2))
   go_ret
   exact⟨b1,p1,e1,A8,d8,_,rfl,fo_put HA.out HB.out HN.out HP1.out HX.out (Ext.alloc _ _) hg8 ho8 hat8⟩
 ·by_cases h2:p2<0/\(alike=true\/e2<0)
  ·have hl2:=HL2.out h2.1;have HX:=lh (HE2.out h2.1 h2.2);have hne:=own_blk OW2.out G2.out de;have hq:(¬p1<0/\p2<0/\alike=true)\/(¬p1<0/\p2<0/\alike=false/\e2<0)\/(p1<0/\alike=false/\¬e1<0/\p2<0/\e2<0):=by
    cases alike
    ·by_cases h3:p1<0
     ·exact .inr (.inr ⟨h3,rfl,fun h=>h1 ⟨h3,.inr h⟩,h2.1,by simpa using h2.2⟩)
     ·exact .inr (.inl ⟨h3,h2.1,rfl,by simpa using h2.2⟩)
    ·exact .inl ⟨fun h=>h1 ⟨h,.inl rfl⟩,h2.1,rfl⟩
   have HP2:=lh h2.1;have HN2:=lh (show((grp b2 p2 e2 A2 c2 k2).fp++(grp b1 p1 e1 A1 c1 k1).fp).Nodup from List.perm_append_comm.nodup_iff.1 HN.out);clear h1 h2;rcases hq with⟨hp,hp2,rfl⟩|⟨hp,hp2,rfl,he⟩|⟨hp,rfl,he1,hp2,he⟩<;>clear HE1 HE2 HL1 HL2
   all_goals
    go_enter Tryz.func138,Tryz.ntmps138
    go_upto_region 5 with fail
    go_wp2_with ((at_builtin;refine wpList_app _ rfl _ _ _ rfl 0 138 iG (.pointer none) 1 8 Tryz.underlying248 jG0 jG1 jG2 jG3 rfl om A2 k2.len c2 k2.ptrs rfl (OwnS.ext OW2.out (Ext.alloc _ _)) _ 1 1 [.pointer (some ⟨b1,0,none⟩)] rfl rfl (blk_cells (Blk.new _ _ _)) (by intro u hu;rw[List.mem_singleton.1 hu];rfl) um om (Nat.zero_le _) ?_;intro A8 d8 w8 ho8 hg8 hat8;have b8:=(KpP.of_grown hg8).blk (G2.out.ext (Ext.alloc _ _)) hne;have c8:=b8.cell 2;have f8:=b8.frz 2))
    go_ret
    exact⟨b2,p2,e2,A8,d8,_,rfl,(fo_put HB.out HA.out HN2.out HP2.out HX.out (Ext.alloc _ _) hg8 ho8 hat8).swap⟩
  ·have hq:(¬p1<0/\¬p2<0)\/(¬p1<0/\p2<0/\alike=false/\¬e2<0)\/(p1<0/\alike=false/\¬e1<0/\¬p2<0)\/(p1<0/\alike=false/\¬e1<0/\p2<0/\¬e2<0):=by
    by_cases h3:p1<0<;>by_cases h4:p2<0<;>cases alike<;>simp_all
   clear h1 h2;obtain⟨B1,B2,X⟩:=alloc2 w 138 #[.pointer (some ⟨b1,0,none⟩),.pointer (some ⟨b2,0,none⟩)] 250 #[.int .i64 (-1),.int .i64 (-1),.slice (some ⟨w.heap.size,0,none⟩) 2 2];have HF:=lh (fo_two HA.out HB.out HN.out X B1 B2 (Nat.le_refl _) (Nat.le_succ _));clear B1 B2 X;rcases hq with⟨hp,hp2⟩|⟨hp,hp2,rfl,he⟩|⟨hp,rfl,he1,hp2⟩|⟨hp,rfl,he1,hp2,he⟩<;>clear HE1 HE2 HL1 HL2
   all_goals
    go_enter Tryz.func138,Tryz.ntmps138
    go_wp2_with fail
    go_ret
    exact⟨_,_,_,_,_,_,rfl,HF.out⟩
theorem cells_tail {bd:Nat}{S:Nat->Prop}{w:World}{d b o:Nat}{ks kt:List Value}(hc:CellsAt w (some ⟨b,o,none⟩) (ks.flatMap cellsOf))(ht:∀u∈ks,TreeAt bd S w d u)(hk:kt=ks.tail)(hn:ks≠[]):CellsAt w (some ⟨b,o+8,none⟩) (kt.flatMap cellsOf):=by
 subst hk
 cases ks with
 | nil=>exact absurd rfl hn
 | cons k1 kt=>
  simp only[List.tail_cons];have h8:=(ht k1 si).len8;intro hne;obtain⟨b2,o2,e,hcell⟩:=hc (by rw[List.flatMap_cons];intro e;exact hne (List.append_eq_nil_iff.1 e).2);injection e with e;injection e with e1 e2 _
  subst e1;subst e2;refine⟨b,o+8,rfl,fun i hi=>?_⟩;have h:=hcell (8+i) (by rw[List.flatMap_cons,List.length_append];omega);have e:o+(8+i)=o+8+i:=om;rw[e] at h;rw[h];simp only[List.flatMap_cons];rw[List.getElem_append_right om];simp[h8]
end
end Go.Proofs.YtmgpefenkilffaaGreat
