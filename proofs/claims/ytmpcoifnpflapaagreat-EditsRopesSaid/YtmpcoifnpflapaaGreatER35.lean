/- Texts of this proof: T6 T8. -/
import Derived.Test.YtmpcoifnpflapaaGreatER16
import Derived.Test.YtmpcoifnpflapaaGreatER19
import Derived.Test.YtmpcoifnpflapaaGreatER33
set_option linter.all false
set_option maxRecDepth 100000
set_option maxHeartbeats 16000000
namespace Go.Proofs.YtmpcoifnpflapaaGreat
section
open Go.RowKit
attribute [local go_sem ↓] Go.wp_at_zero Go.wp_at_succ
def RetMk (t:List Int)(w:World)(e:Ending)(w':World):Prop:=
 ∃(base:Nat) (I:Option Addr) (cI:Nat) (X:Option Addr) (cX:Nat) (its:List Hv) (es:List Ed) (txs:List Tx),e=.returned (.agg #[.slice I its.length cI,.slice X txs.length cX])/\w.heap.size<=base/\its.length<=16/\
  OwnS w' base 59 6 I its.length cI (flatI its)/\OwnS w' base 22 1 X txs.length cX (flatT txs)/\(∀h∈its,IL w' h.A h.c h.it.e.ins)/\(∀x∈txs,IL w' x.A x.c x.l)/\
  Mk (its.map (·.it)) es (txs.map (·.l))/\(txs.map (·.l)).getD 0 []=t/\Ext w w'
theorem MkD.start {w1 w4:World}{T:Option Addr}{tc:Nat}{t:List Int}{gt gm g:Nat}(hT:IL w4 T tc t)(hTl:t≠[]->∀b,T.map (·.block)=some b->b<w1.heap.size)(hgt:w1.heap.size<=gt)(hgm:w1.heap.size<=gm)(hg:w1.heap.size<=g)
 (b1:Blk w4 gt 22 #[.slice T t.length tc]) (b2:Blk w4 gm 44 #[.slice none 0 0,.slice (some ⟨gt,0,none⟩) 1 1]) (b3:Blk w4 g 156 #[.slice none 0 0,.slice none 0 0,.slice none 0 0]) :
 MkD w4 w1.heap.size gm g none 0 none 0 none 0 (some ⟨gt,0,none⟩) 1 [] [] [] [⟨T,tc,t⟩]:=by
 refine⟨b2,⟨b3,OwnS.nil _ _ _ _,OwnS.nil _ _ _ _,by simp,hg,by simp⟩,OwnS.nil _ _ _ _,?_,hgm,by simp,by simp,?_⟩
 ·exact OwnS.of_blk (n:=1) (c:=1) (size:=1) b1 hgt rfl (Nat.le_refl _) um
 ·intro x hx;obtain rfl:=List.mem_singleton.1 hx;refine⟨hT,fun hn b hb hm=>?_⟩;have:=hTl hn b hb;rcases hm with rfl|(rfl|hm|hm)|hm|hm
  ·omega
  ·omega
  ·simp at hm
  ·simp at hm
  ·simp at hm
  ·have:gt=b:=by simpa using hm
   omega
theorem cell?_lt {w:World}{b i:Nat}{v:Value}(h:w.cell? ⟨b,i,none⟩=some v):b<w.heap.size:=by
 rcases Nat.lt_or_ge b w.heap.size with h1|h1
 ·exact h1
 ·simp[World.cell?,Array.getElem?_eq_none h1] at h
theorem redit_200 (size n m:Int):∀x∈(redit size n m).ins,0<=x/\x<=200:=rtext_bd _ _
theorem redit_all (size:Nat)(n m:Int):EdOf size (redit size n m)/\(redit size n m).ins.length<=3:=
 ⟨⟨(redit_bd size n m om).1,(redit_bd size n m om).2.1,(redit_bd size n m om).2.2,(redit_ins size n m).1⟩,(redit_ins size n m).2⟩
theorem Mk.small {its:List It}{es:List Ed}{txs:List (List Int)}(h:Mk its es txs)(hl:its.length<=16):∀e∈es,SmE 1000 e:=by
 intro e he;obtain⟨i,hi,rfl⟩:=List.getElem_of_mem he;have hii:i<its.length:=by have:=h.le;omega
 have h1:=h.ed i hii;have h2:=h.sz i om;obtain⟨b,_,_,_,h3⟩:=h.bs i hii;have h4:=(h.cl i hii).2.2.2;have h5:=(overAll_moved ((es.take i).drop b) (its.getD i it0).e).2
 rw[<-h3] at h5;rw[getD_get _ _ _ hi] at h1 h5;obtain⟨a1,a2,a3,_⟩:=h1;refine⟨a1,a2,om,?_⟩;rw[h5];omega
theorem cntL_map (its:List Hv)(c:Int):cntL (its.map (·.it.client)) c=cntC (its.map (·.it)) c:=by
 unfold cntL cntC;induction its with
 | nil=>rfl
 | cons h l ih=>
  simp only[List.map_cons,List.filter_cons]
  split<;>simp[ih]
theorem Mk.step {its:List Hv}{es:List Oe}{txs:List Tx}(h:Mk (its.map (·.it)) (es.map (·.e)) (txs.map (·.l))){k:Int}{m b:Nat}{ed e':Ed}(B:Option Addr)(cB:Nat)(hb:b<=its.length)(hx:EdOf ((txs.map (·.l)).getD b []).length ed)
 (h3:ed.ins.length<=3) (hy:∀y∈ed.ins,0<=y/\y<=200) (hk:0<=k/\k<3) (hm:m=cntL (its.map (·.it.client)) k) (he:e'=((es.map (·.e)).drop b).foldl movedE ed) :
 Mk ((its++[(⟨⟨k,m,b,ed⟩,B,cB⟩:Hv)]).map (·.it)) ((es++[(⟨e',B,cB⟩:Oe)]).map (·.e)) (txs.map (·.l)++[spliceE ((txs.map (·.l)).getD its.length []) e'])/\EdOf ((txs.map (·.l)).getD its.length []).length e':=by
 have:=h.snoc (x:=⟨k,m,b,ed⟩) (b:=b) rfl (by simpa using hb) hx hy hk (by rw[hm,cntL_map]) h3;subst he;rw[List.length_map] at this;rw[List.map_append,List.map_append];exact this
def MkLp (base gm g:Nat)(A:Option Addr)(cA:Nat)(C:Option Addr)(cC:Nat)(I:Option Addr)(cI:Nat)(its:List Hv)(es:List Oe)(cl:List Int)(txs:List Tx)(O:Option Addr)(cO:Nat)(o:Oe)(ob:Nat)(sp:List Int)(j:Nat)(wr:World):Prop:=
 ∃(X:Option Addr) (cX:Nat) (tl:List Tx),tl.map (·.l)=(if j=0 then[] else[sp])/\MkD wr base gm g A cA C cC I cI X cX its es cl (txs++tl)/\OwnS wr ob 55 3 O 1 cO (flatE [o])
theorem MkD.lt {w:World}{base gm g cA cC cI cX:Nat}{A C I X:Option Addr}{its:List Hv}{es:List Oe}{cl:List Int}{txs:List Tx}(h:MkD w base gm g A cA C cC I cI X cX its es cl txs){i:Nat}(hi:mkB gm g A C I X i):i<w.heap.size:=by
 rcases hi with rfl|(rfl|hi|hi)|hi|hi
 ·exact h.blk.lt
 ·exact h.desk.blk.lt
 ·exact(OwnS.blt h.desk.apo hi).1
 ·exact(OwnS.blt h.desk.clo hi).1
 ·exact(OwnS.blt h.ito hi).1
 ·exact(OwnS.blt h.txo hi).1
theorem IL.neBlk {w:World}{A:Option Addr}{c g T:Nat}{xs:List Int}{cs:Array Value}(h:IL w A c xs)(hn:xs≠[])(hb:Blk w g T cs)(hcs:∀(i:Nat) (x:Int),cs[i]?≠some (.int .i64 x)){b:Nat}(hA:A.map (·.block)=some b):b≠g:=by
 rintro rfl;obtain⟨b',o,rfl,hc⟩:=h.at_ hn;have hbb:b'=b:=by simpa using hA
 subst hbb;have h0:=hc 0 (List.length_pos_iff.2 hn);rw[hb.cell] at h0;exact hcs _ _ h0
theorem MkD.ret {w wr:World}{gr base gm g cA cC cI cX:Nat}{A C I X:Option Addr}{its:List Hv}{es:List Oe}{cl:List Int}{txs:List Tx}{t:List Int}(h:MkD wr base gm g A cA C cC I cI X cX its es cl txs)(hb:Blk wr gr 44 #[.slice none 0 0,.slice none 0 0])
 (hgr:gr<base) (hw:w.heap.size<=gr) (x:Ext w wr) (h16:its.length<=16) (hMk:Mk (its.map (·.it)) (es.map (·.e)) (txs.map (·.l))/\(txs.map (·.l)).getD 0 []=t) :
 RetMk t w (.returned (.agg #[.slice I its.length cI,.slice X txs.length cX])) ((wr.setCell ⟨gr,0,none⟩ (.slice I its.length cI)).setCell ⟨gr,1,none⟩ (.slice X txs.length cX)):=by
 have kk:KpP (·=gr) wr ((wr.setCell ⟨gr,0,none⟩ (.slice I its.length cI)).setCell ⟨gr,1,none⟩ (.slice X txs.length cX)):=KpP.set (p:=(·=gr)) (x:=⟨gr,1,none⟩) (KpP.set (p:=(·=gr)) (x:=⟨gr,0,none⟩) (KpP.refl _ wr) (.inl rfl) _) (.inl rfl) _;have hint:∀(i:Nat) (x:Int),(#[(.slice none 0 0:Value),.slice none 0 0])[i]?≠some (.int .i64 x):=fun i x e=>by
  rcases i with _|_|i
  ·simp at e
  ·simp at e
  ·simp at e
 refine⟨base,I,cI,X,cX,its,es.map (·.e),txs,rfl,om,h16,OwnS.kp h.ito kk (fun b hb=>?_),OwnS.kp h.txo kk (fun b hb=>?_),fun z hz=>?_,fun z hz=>?_,hMk.1,hMk.2,(x.setNew (p:=⟨gr,0,none⟩) hw _).setNew (p:=⟨gr,1,none⟩) hw _⟩
 ·have:=OwnS.row h.ito b hb;omega
 ·have:=OwnS.row h.txo b hb;omega
 ·exact(h.il z hz).1.kp kk (fun hn b hB=>(h.il z hz).1.neBlk hn hb hint hB)
 ·exact(h.tl z hz).1.kp kk (fun hn b hB=>(h.tl z hz).1.neBlk hn hb hint hB)
theorem textCells {w:World}{base c:Nat}{X:Option Addr}{l:List Tx}(h:OwnS w base 22 1 X l.length c (flatT l)){j:Nat}(hj:j<l.length) :
 ∃(b o:Nat),X=some ⟨b,o,none⟩/\w.cell? ⟨b,o+j,none⟩=some (.slice l[j].A l[j].l.length l[j].c):=by
 obtain⟨xb,xo,hA,hc⟩:=OwnS.cells h (by intro e;have:=flatT_len l;rw[e] at this;simp at this;omega);refine⟨xb,xo,hA,?_⟩;rw[hc j (by rw[flatT_len];omega)];simp[flatT]
theorem oneEdit {w:World}{base c:Nat}{O:Option Addr}{o:Oe}(h:OwnS w base 55 3 O 1 c (flatE [o])) :
 ∃(b p:Nat),O=some ⟨b,p,none⟩/\w.cell? ⟨b,p,none⟩=some (.int .i64 o.e.at_)/\w.cell? ⟨b,p+1,none⟩=some (.int .i64 o.e.del)/\w.cell? ⟨b,p+2,none⟩=some (.slice o.A o.e.ins.length o.c):=by
 obtain⟨b,p,hA,hc⟩:=OwnS.cells h (by simp[flatE]);refine⟨b,p,hA,?_,?_,?_⟩
 ·exact hc 0 (by simp[flatE])
 ·exact hc 1 (by simp[flatE])
 ·exact hc 2 (by simp[flatE])
theorem T6z1 {P:Prop} (h:P:=by
 have hwn:IntKind.i64.wrap ((n:Int)+1)=(n:Int)+1:=wj;obtain⟨qm0,qm1,qz0,qz1,qlt⟩:=qm;have brr:=br.ext EX;clear br;have HW:=er.trans EX;obtain⟨qr0,qr1,rz0,rz1,rlt⟩:=brr.c2
 go_wp2_with fail
 have HR:=HM.out.ret brr hrw HGR.out HW h16 HP.out;have bf:=(brr.set 0 (.slice I its.length cI)).set 1 (.slice X txs.length cX);simp only[List.setIfInBounds_toArray,List.set_cons_zero,List.set_cons_succ] at bf;have r0:=bf.cell 0;have r1:=bf.cell 1;simp only[List.getElem?_toArray,List.getElem?_cons_succ,List.getElem?_cons_zero] at r0 r1;refine bodyPost_ret (v:=.agg #[.slice I its.length cI,.slice X txs.length cX]) (by simp[results,Tryz.results15,go_sem,r0,r1]) rfl HR):P:=h
theorem rMake_any (T L:Option Addr)(tc cL:Nat)(t l:List Int)(w:World)(hT:IL w T tc t)(hL:IL w L cL l)(ht:t.length<=40)(hts:∀x∈t,0<=x/\x<=200)(mo:Nat)(hmo:mo<=16) :
 Calls Tryz.prog 15 #[.slice T t.length tc,.slice L l.length cL,.int .i64 mo] w (RetMk t w):=by
 obtain⟨iI,jI0,jI1,jI2,jI3⟩:=info_parts infoRI;obtain⟨iT,jT0,jT1,jT2,jT3⟩:=info_parts infoRT;have hll:=hL.len;have hrl:=hL.rng;have br:=Blk.new w 44 #[.slice none 0 0,.slice none 0 0];have er:=Ext.alloc w (.cells #[.slice none 0 0,.slice none 0 0] 44);go_enter Tryz.func15,Tryz.ntmps15
 go_upto_region 1 with fail
 obtain⟨gr,hgr⟩:∃gr,gr=w.heap.size:=⟨_,rfl⟩
 rw[<-hgr] at br ⊢;have hrw:=br.lt;have HGR:=lh (Nat.le_of_eq hgr.symm);clear hgr;generalize w.alloc (.cells #[.slice none 0 0,.slice none 0 0] 44)=w1 at *;have bt:=Blk.new w1 22 (flatT [⟨T,tc,t⟩]).toArray;have et:=Ext.alloc w1 (.cells (flatT [⟨T,tc,t⟩]).toArray 22);have bm:=Blk.new (w1.alloc (.cells (flatT [⟨T,tc,t⟩]).toArray 22)) 44 #[.slice none 0 0,.slice (some ⟨w1.heap.size,0,none⟩) 1 1];have em:=Ext.alloc (w1.alloc (.cells (flatT [⟨T,tc,t⟩]).toArray 22)) (.cells #[.slice none 0 0,.slice (some ⟨w1.heap.size,0,none⟩) 1 1] 44)
 go_upto_region 2 with fail
 have bd:=Blk.new ((w1.alloc (.cells (flatT [⟨T,tc,t⟩]).toArray 22)).alloc (.cells #[.slice none 0 0,.slice (some ⟨w1.heap.size,0,none⟩) 1 1] 44)) 156 #[.slice none 0 0,.slice none 0 0,.slice none 0 0];have ed:=Ext.alloc ((w1.alloc (.cells (flatT [⟨T,tc,t⟩]).toArray 22)).alloc (.cells #[.slice none 0 0,.slice (some ⟨w1.heap.size,0,none⟩) 1 1] 44)) (.cells #[.slice none 0 0,.slice none 0 0,.slice none 0 0] 156);have HX:=((er.trans et).trans em).trans ed;have HM:=MkD.start (w1:=w1) (hT.ext HX) (fun hn b hb=>by have:=hT.blt hn hb;have:=er.size;omega) (Nat.le_refl _) et.size (et.trans em).size ((bt.ext em).ext ed) (bm.ext ed) bd;have hs1:(w1.alloc (.cells (flatT [⟨T,tc,t⟩]).toArray 22)).heap.size=w1.heap.size+1:=by simp
 have hs2:((w1.alloc (.cells (flatT [⟨T,tc,t⟩]).toArray 22)).alloc (.cells #[.slice none 0 0,.slice (some ⟨w1.heap.size,0,none⟩) 1 1] 44)).heap.size=w1.heap.size+1+1:=by simp
 rw[hs2,hs1] at HM;replace HM:=lh HM;have EX:=(et.trans em).trans ed;clear hs1 hs2 bt bm bd et em ed HX
 go_wp2_with fail
 go_loopw [9] (fun v9 wr=>∃(n:Nat) (A:Option Addr) (cA:Nat) (C:Option Addr) (cC:Nat) (I:Option Addr) (cI:Nat) (X:Option Addr) (cX:Nat) (its:List Hv) (es:List Oe) (txs:List Tx),v9=.int .i64 n/\Hid (n=2*its.length)/\n<=32/\its.length<=16/\Hid (MkD wr w1.heap.size (w1.heap.size+1) (w1.heap.size+1+1) A cA C cC I cI X cX its es (its.map (·.it.client)) txs)/\
  Hid (Mk (its.map (·.it)) (es.map (·.e)) (txs.map (·.l))/\(txs.map (·.l)).getD 0 []=t)/\Ext w1 wr) (fun i _=>40-(intOf i).toNat)
 case atStart=>exact⟨0,none,0,none,0,none,0,_,1,[],[],[⟨T,tc,t⟩],rfl,rfl,om,by simp,HM,lh ⟨Mk.start ht hts,rfl⟩,EX⟩
 case round=>
  clear HM EX;obtain⟨n,A,cA,C,cC,I,cI,X,cX,its,es,txs,rfl,HN,hn32,h16,HM,HP,EX⟩:=hrel;have qm:=HM.out.blk.c2;by_cases h1:n+1<l.length
  ·by_cases h2m:its.length<mo
   ·have hI1:(n:Int)+1<l.length:=om;have h2:its.length<16:=om;have hI2:(its.length:Int)<mo:=om;have hI3:(n:Int)<l.length:=om;obtain⟨m0,m1,mz0,mz1,mlt⟩:=qm;have hL1:=(hL.ext er).ext EX;obtain⟨pb,po,hA1,g1⟩:=hL1.get (show n<l.length by omega);obtain⟨pb2,po2,hA2,g2⟩:=hL1.get (show n+1<l.length by omega);rw[hA1] at hA2;obtain⟨rfl,rfl⟩:pb=pb2/\po=po2:=by injection hA2 with h1;injection h1 with h2 h3 h4;exact⟨h2,h3⟩
    subst hA1;have r1:I64 l[n]:=hrl _ (List.getElem_mem _);have r2:I64 l[n+1]:=hrl _ (List.getElem_mem _);generalize l[n]=v1 at *;generalize l[n+1]=v2 at *;have hab:=around_bd v1 1048576 om;have HAR:=fun(W':World)=>lh (around_any v1 1048576 W' r1 om om);generalize around v1 1048576=k at *;have hwn:IntKind.i64.wrap ((n:Int)+1)=(n:Int)+1:=wj
    go_wp2_with fail
    refine(HAR _).out.mono ?_;rintro e w2 hq;obtain⟨rfl,x2⟩:=hq.v;clear hq HAR;replace g1:=x2.cell g1;replace g2:=x2.cell g2;replace EX:=EX.trans x2;replace HM:=lh (HM.out.ext x2);clear m0 m1 mz0 mz1 mlt;have q0:=HM.out.desk.blk.c3.1;have hle:=HP.out.1.le;simp only[List.length_map] at hle;have hk3:0<=k % 3/\k % 3<3:=om;have HLE:=lh hle
    go_upto_region 9 with fail
    have hbx:0<=(if k / 3 % 4<(its.length:Int) then(its.length:Int)-k / 3 % 4 else 0)/\(if k / 3 % 4<(its.length:Int) then(its.length:Int)-k / 3 % 4 else 0)<=its.length:=by split<;>omega
    generalize (if k / 3 % 4<(its.length:Int) then(its.length:Int)-k / 3 % 4 else 0)=bI at *;obtain⟨b,rfl⟩:∃b:Nat,bI=b:=⟨bI.toNat,om⟩;have hbl:b<=its.length:=om;clear hbx hle q0;have hcl:=HM.out.desk.blk;have HNX:=lh (rNext_any (w1.heap.size+1+1) _ _ C cC (its.map (·.it.client)) (k % 3) w2 hcl (IL.of_own HM.out.desk.clo HM.out.desk.clr) (by simp;omega));have hcle:=cntL_le (its.map (·.it.client)) (k % 3);rw[List.length_map] at hcle;obtain⟨m,hm⟩:∃m,m=cntL (its.map (·.it.client)) (k % 3):=⟨_,rfl⟩
    rw[<-hm] at HNX hcle;have HCM:=lh hm;clear hm hcl
    go_wp2_with fail
    refine HNX.out.mono ?_;rintro e w3 ⟨rfl,x3⟩;clear HNX;replace g1:=x3.cell g1;replace g2:=x3.cell g2;replace EX:=EX.trans x3;replace HM:=lh (HM.out.ext x3);have bx:=Blk.new w3 59 #[.int .i64 (k % 3),.int .i64 m,.int .i64 b,.int .i64 0,.int .i64 0,.slice none 0 0];have ex:=Ext.alloc w3 (.cells #[.int .i64 (k % 3),.int .i64 m,.int .i64 b,.int .i64 0,.int .i64 0,.slice none 0 0] 59);have hMl:=HM.out.blk.lt;have HLOW:=lh (show ∀i,mkB (w1.heap.size+1) (w1.heap.size+1+1) A C I X i->i<w3.heap.size from fun i hi=>by
     rcases hi with rfl|(rfl|hi|hi)|hi|hi
     ·exact HM.out.blk.lt
     ·exact HM.out.desk.blk.lt
     ·exact(OwnS.blt HM.out.desk.apo hi).1
     ·exact(OwnS.blt HM.out.desk.clo hi).1
     ·exact(OwnS.blt HM.out.ito hi).1
     ·exact(OwnS.blt HM.out.txo hi).1)
    have hg1l:pb<w3.heap.size:=(cell?_lt g1)
    go_upto_region 10 with fail
    obtain⟨gx,hgx⟩:∃gx,gx=w3.heap.size:=⟨_,rfl⟩
    rw[<-hgx] at bx HLOW hMl hg1l ⊢;have HM3:=HM;have EX3:=EX;replace EX:=EX.trans ex;replace HM:=lh (HM.out.ext ex);replace g2:=ex.cell g2;have HGX:=lh hgx;generalize w3.alloc (.cells #[.int .i64 (k % 3),.int .i64 m,.int .i64 b,.int .i64 0,.int .i64 0,.slice none 0 0] 59)=w4 at *;clear g1 hgx;have htl:=HP.out.1.lt;simp only[List.length_map] at htl;have hbt:b<txs.length:=om;obtain⟨xb,xo,hXa,tc0⟩:∃xb xo,X=some ⟨xb,xo,none⟩/\w4.cell? ⟨xb,xo+b,none⟩=some (.slice txs[b].A txs[b].l.length txs[b].c):=by
     obtain⟨xb,xo,hA,hc⟩:=OwnS.cells HM.out.txo (by intro e;have:=flatT_len txs;rw[e] at this;simp at this;omega);refine⟨xb,xo,hA,?_⟩;rw[hc b (by rw[flatT_len];omega)];simp[flatT]
    have hxbl:xb<gx:=HLOW.out xb (.inr (.inr (.inr (by rw[hXa];rfl))));have htz:txs[b].l.length<=40+3*b:=by
     have:=HP.out.1.sz b (by simpa using hbl);rw[getD_get _ _ _ (by simpa using hbt)] at this
     simpa using this
    have HTB:Hid ((txs.map (·.l)).getD b []=txs[b].l):=by
     show _=_
     rw[getD_get _ _ _ (by simpa using hbt)]
     simp
    have HBI:=lh hbt;have HTL:=lh htl;generalize txs[b]=tb at *;have hXB:(b:Int)<(txs.length:Int):=om;clear htl;subst hXa;have hk12:I64 (k / 12):=I64_of om;have HRE:=fun(W':World)=>lh (rEdit_any tb.l.length (k / 12) v2 W' om hk12 r2);have HED:=lh (redit_all tb.l.length (k / 12) v2);have HEV:=lh (redit_200 tb.l.length (k / 12) v2);generalize redit (tb.l.length:Int) (k / 12) v2=ed at *;have m1:=HM.out.blk.c2.2.1;have hng:∀{i:Nat},i<gx->i∉[gx]:=fun h=>by simp;omega
    have km:=fun(w':World) (h:Kp [gx] w4 w')=>h.cell m1 (hng hMl);have kt:=fun(w':World) (h:Kp [gx] w4 w')=>h.cell tc0 (hng hxbl);have kg:=fun(w':World) (h:Kp [gx] w4 w')=>h.cell g2 (hng hg1l);have hto:((n:Int)+1).toNat=n+1:=om;have hge0:(0:Int)<=(n:Int)+1:=om;clear hng;refine Xr.start [gx] kr ?_;refine Xtk 0 ?_
    iterate 12(refine Xtn ?_)
    refine Xcl 13 fun w5 hE5 hK5 K hKK=>?_;go_simp;rw[show IntKind.i64.wrap (k.tdiv 12)=k / 12 from by rw[Int.tdiv_eq_ediv_of_nonneg hab.1,IntKind.wrap_i64];omega];refine(HRE _).out.mono ?_;rintro e w6 ⟨B,cB,rfl,iB,x6,hfr⟩;refine hKK _ _ x6 ?_;clear hKK km kt kg;refine ptm ?_;refine Xtk 14 ?_;refine Xsp 15 fun w7 hE7 hK7 K hKK=>?_;have EX7:=(hE5.trans x6).trans hE7;have bx7:=bx.ext EX7;have u3:=bx7.cell 3;have u4:=bx7.cell 4;have u5:=bx7.cell 5;simp only[List.getElem?_toArray,List.getElem?_cons_succ,List.getElem?_cons_zero] at u3 u4 u5;have f3:=bx7.frz 3;have f4:=bx7.frz 4;have f5:=bx7.frz 5;go_simp;refine hKK _ _ (WI_setL (WI_setL (WI_setL (WI_refl _ _ _) List.mem_cons_self _ _) List.mem_cons_self _ _) List.mem_cons_self _ _) (((hK7.setL List.mem_cons_self _ _).setL List.mem_cons_self _ _).setL List.mem_cons_self _ _) ?_;clear hKK;refine ptm ?_;refine Xdn fun w8 hE8 hK8=>?_;have hgx0:w3.heap.size<=gx:=Nat.le_of_eq HGX.out.symm;have bx8:=(((bx7.set 3 (.int .i64 ed.at_)).set 4 (.int .i64 ed.del)).set 5 (.slice B ed.ins.length cB)).ext hE8;simp only[List.setIfInBounds_toArray,List.set_cons_zero,List.set_cons_succ] at bx8;have x38:=((((ex.trans EX7).setNew (p:=⟨gx,3,none⟩) hgx0 (.int .i64 ed.at_)).setNew (p:=⟨gx,4,none⟩) hgx0 (.int .i64 ed.del)).setNew (p:=⟨gx,5,none⟩) hgx0 (.slice B ed.ins.length cB)).trans hE8;have hgx5:=(bx.ext hE5).lt;have iB8:=((((iB.ext hE7).setOld hfr (p:=⟨gx,3,none⟩) hgx5 (.int .i64 ed.at_)).setOld hfr (p:=⟨gx,4,none⟩) hgx5 (.int .i64 ed.del)).setOld hfr (p:=⟨gx,5,none⟩) hgx5 (.slice B ed.ins.length cB)).ext hE8
    have HM8:=lh (HM3.out.ext x38);have EX8:=EX3.trans x38;have HNB:=lh (show ∀b',B.map (·.block)=some b'->¬mkB (w1.heap.size+1) (w1.heap.size+1+1) A C I (some ⟨xb,xo,none⟩) b' from fun b' hb hm=>by
     have h1:=hfr b' hb;have h2:=HLOW.out b' hm;omega)
    clear HM HM3 EX EX3 hE5 hE7 hE8 hK5 hK7 hK8 x6 u3 u4 u5 f3 f4 f5 bx bx7 EX7 iB hfr HRE m1 tc0 g2 x38 ex hgx0 hgx5;have p0:=bx8.cell 0;have p1:=bx8.cell 1;have p2:=bx8.cell 2;have p3:=bx8.cell 3;have p4:=bx8.cell 4;have p5:=bx8.cell 5;simp only[List.getElem?_toArray,List.getElem?_cons_succ,List.getElem?_cons_zero] at p0 p1 p2 p3 p4 p5
    go_wp2_with fail
    have hesl:es.length=its.length:=HLE.out;have HTK:=lh (rTake_one w1.heap.size (w1.heap.size+1+1) cA cC A C es (its.map (·.it.client)) ⟨k % 3,m,b,ed⟩ b B cB w8 HM8.out.desk
     ⟨hk3.1,by simp only;omega,by simp only;omega,by simp only;omega,by simp only;omega,by simp only;omega,formed_of (n:=tb.l.length) HED.out.1 om (Nat.le_trans HED.out.2 om)⟩ iB8 (fun _ b' hb h=>HNB.out b' hb (.inr (.inl h)))
     (by rw[HCM.out]) rfl om om (by simp;omega) (fun o ho=>HP.out.1.small (by simp;omega) _ (List.mem_map_of_mem ho))
     (by obtain⟨⟨a1,a2,a3,_⟩,a4⟩:=HED.out;exact⟨a1,a2,by simp only;omega,by simp only;omega⟩))
    clear hesl;refine HTK.out.mono ?_;rintro e w9 ⟨A',cA',C',cC',O,cO,rfl,hD9,hO9,hk9,hl9⟩;clear HTK;have hin:=(overAll_moved ((es.map (·.e)).drop b) ed).2;have hM9:=MkD.take HM8.out hD9 hk9 hl9 (by simp only;rw[hin];exact iB8) (fun _ b' hb=>HNB.out b' hb);have HM9:=lh hM9;have ngx:¬deskB (w1.heap.size+1+1) A C gx:=fun hb=>by have:=HLOW.out gx (.inr (.inl hb));omega
    have bx9:=hk9.blk bx8 ngx;have EX9:=EX8.kp (p:=deskB (w1.heap.size+1+1) A C) hk9 (fun b' hb=>HM8.out.low (.inr (.inl hb)));clear p0 p1 p2 p3 p4 p5 bx8 EX8 HM8 hD9 hl9 hM9;have iB9:IL w9 B cB ed.ins/\(ed.ins≠[]->∀b',B.map (·.block)=some b'->¬mkB (w1.heap.size+1) (w1.heap.size+1+1) A' C' I (some ⟨xb,xo,none⟩) b'):=by
     have:=HM9.out.el _ (List.mem_append_right es (List.mem_singleton.2 rfl));simp only[hin] at this;exact this
    have hO:=hO9;have q0:=bx9.cell 0;have q1:=bx9.cell 1;have q2:=bx9.cell 2;have q3:=bx9.cell 3;have q4:=bx9.cell 4;have q5:=bx9.cell 5;simp only[List.getElem?_toArray,List.getElem?_cons_succ,List.getElem?_cons_zero] at q0 q1 q2 q3 q4 q5;obtain⟨n0,n1,nz0,nz1,nlt⟩:=HM9.out.blk.c2;have HITO:=lh HM9.out.ito;have HNEW:=lh (Blk.new w9 59 (flatI [⟨⟨k % 3,m,b,ed⟩,B,cB⟩]).toArray);have HL6:=lh (show its.length+1<=maxLen/\(its.length+1)*64<=140737488355328 by unfold maxLen;omega);have HBS:=lh (show w1.heap.size<=(w9.alloc (.cells (flatI [⟨⟨k % 3,m,b,ed⟩,B,cB⟩]).toArray 59)).heap.size from(EX9.trans (Ext.alloc _ _)).size);have HO9:=lh hO9;have IB9:=lh iB9;clear hO9 hO iB9 HNB iB8 hk9 ngx hin
    go_wp2_with ((at_builtin;refine wpList_app _ rfl _ _ _ rfl w1.heap.size 59 iI _ 6 64 Tryz.underlying41 jI0 jI1 jI2 jI3 rfl om I its.length cI (flatI its) rfl (OwnS.ext HITO.out (Ext.alloc _ _)) _ 1 1 (flatI [⟨⟨k % 3,m,b,ed⟩,B,cB⟩]) rfl rfl (blk_cells HNEW.out) (flatI_one _) HL6.out.1 HL6.out.2 HBS.out ?_;intro I' cI' w10 ho10 hg10 hat10;have hIg:=own_blk HITO.out HM9.out.blk de;have k10:=KpP.of_grown hg10;have b10:=k10.blk (HM9.out.blk.ext (Ext.alloc _ _)) hIg;obtain⟨s0,s1,z0,z1,zlt⟩:=b10.c2))
    have HMA:=lh ((HM9.out.ext (Ext.alloc _ _)).item (z:=⟨⟨k % 3,m,b,ed⟩,B,cB⟩) hg10 ho10 hat10 (Ext.rfl' _) (IB9.out.1.ext (Ext.alloc _ _)) IB9.out.2);have EX10:=(Ext.app (EX9.trans (Ext.alloc _ _)) (OwnS.ext HITO.out (Ext.alloc _ _)) hg10).setNew (p:=⟨w1.heap.size+1,0,none⟩) (Nat.le_succ _) (.slice I' (its.length+1) cI');have HOA:=OwnS.kp (OwnS.ext HO9.out (Ext.alloc _ _)) k10 (fun b hb=>own_ne HO9.out HITO.out de hb);have HO10:=lh (OwnS.far HOA (p:=⟨w1.heap.size+1,0,none⟩) (own_blk HOA b10 de) (.slice I' (its.length+1) cI'));clear hg10 hat10 ho10 HOA k10 hIg b10 s0 s1 z0 z1 zlt HNEW HITO HL6 HBS HO9 HM9 q0 q1 q2 q3 q4 q5 EX9 n0 n1 nz0 nz1 nlt bx9 IB9;have HSN:=lh (HP.out.1.step (k:=k % 3) (m:=m) (b:=b) (ed:=ed) B cB hbl (by rw[HTB.out];exact HED.out.1) HED.out.2 HEV.out hk3 HCM.out rfl);have HEI0:=lh (overAll_moved ((es.map (·.e)).drop b) ed).2;generalize ((es.map (·.e)).drop b).foldl movedE ed=e' at *;obtain⟨tx,htx⟩:∃tx,tx=(txs.map (·.l)).getD its.length []:=⟨_,rfl⟩
    rw[<-htx] at HSN;have HTX:=lh htx;clear htx;obtain⟨iN,hiN⟩:∃iN,iN=its++[(⟨⟨k % 3,m,b,ed⟩,B,cB⟩:Hv)]:=⟨_,rfl⟩;obtain⟨eN,heN⟩:∃eN,eN=es++[(⟨e',B,cB⟩:Oe)]:=⟨_,rfl⟩
    rw[<-hiN,<-heN] at HMA HSN;have HLN:=lh (show iN.length=its.length+1/\iN.map (·.it.client)=its.map (·.it.client)++[k % 3] by rw[hiN];simp);have HEI:=lh (show e'.ins.length<=3 by rw[HEI0.out];exact HED.out.2);have HEM:=lh (show(⟨e',B,cB⟩:Oe)∈eN by rw[heN];simp)
    rw[<-HLN.out.2] at HMA;obtain⟨sp,hsp⟩:∃sp,sp=spliceE tx e':=⟨_,rfl⟩
    rw[<-hsp] at HSN;have HSPE:=lh hsp;clear hsp;have HTXL:=lh (show tx.length<=88 by
     have:=HP.out.1.sz its.length si
     rw[<-HTX.out] at this;omega)
    have HP0:=lh (show(txs.map (·.l)).getD 0 []=t from HP.out.2);clear hiN heN HEI0 HCM HBI HTB HED HEV HLE HP hk3 hab
    go_upto_region 13 with fail
    generalize w10.setCell ⟨w1.heap.size+1,0,none⟩ (.slice I' (its.length+1) cI')=w11 at *
    go_loopw [16] (fun v16 wr=>∃j:Nat,v16=.int .i64 j/\j<=1/\Hid (MkLp w1.heap.size (w1.heap.size+1) (w1.heap.size+1+1) A' cA' C' cC' I' cI' iN eN (iN.map (·.it.client)) txs O cO ⟨e',B,cB⟩ w8.heap.size sp j wr)/\Ext w1 wr) (fun v _=>1-(intOf v).toNat)
    case atStart=>exact⟨0,rfl,om,⟨_,_,[],rfl,by rw[List.append_nil];exact HMA.out,HO10.out⟩,EX10⟩
    case round=>
     clear HMA HO10 EX10;obtain⟨j,rfl,hj,HL,EXr⟩:=hrel;obtain⟨X2,cX2,tl,htl,HM2,HO2⟩:=HL.out;clear HL;by_cases hj0:j<1
     ·have hjI:(j:Int)<1:=om;obtain rfl:j=0:=om;obtain rfl:tl=[]:=by simpa using htl
      rw[List.append_nil] at HM2;obtain⟨qm0,qm1,qz0,qz1,qlt⟩:=HM2.blk.c2;have HTL2:its.length<txs.length:=by have:=HTL.out;omega
      obtain⟨xb2,xo2,hX2,tc2⟩:=textCells HM2.txo HTL2;subst hX2;have htt:txs[its.length].l=tx:=by
       rw[HTX.out,getD_get _ _ _ (by simpa using HTL2)];simp
      have itt:=(HM2.tl _ (List.getElem_mem HTL2)).1;generalize txs[its.length]=tt at *;obtain⟨tA,tcc,tll⟩:=tt
      simp only at htt tc2 itt
      subst htt;have iee:=(HM2.el _ HEM.out).1
      simp only at iee
      obtain⟨ob,oo,hO2,o0,o1,o2⟩:=oneEdit HO2;subst hO2
      simp only at o0 o1 o2
      obtain⟨ed1,ed2,ed3,_⟩:=HSN.out.2;have HSP:∀(W':World),IL W' tA tcc tll->IL W' B cB e'.ins->Hid (Calls Tryz.prog 59 #[.slice tA tll.length tcc,.agg #[.int .i64 e'.at_,.int .i64 e'.del,.slice B e'.ins.length cB]] W' (RetIL sp W')):=fun W' h1 h2=>by
       have:=rSplice_any tA tcc tll e'.at_ e'.del B cB e'.ins W' h1 h2 (by have:=HTXL.out;omega) (by have:=HEI.out;omega) ed1 ed2 ed3;rw[show spliceL tll e'.at_ e'.del e'.ins=sp from HSPE.out.symm] at this;exact lh this
      have hTi:(its.length:Int)<(txs.length:Int):=om;have hTw:IntKind.i64.wrap ((txs.length:Int)-1)=(its.length:Int):=by rw[IntKind.wrap_i64];have:=HTL.out;omega
      have kq1:=kx0 qm1;have kq2:=kx0 tc2;have kq3:=kx0 o0;have kq4:=kx0 o1;have kq5:=kx0 o2;clear ed1 ed2 ed3
      go_upto_region 15 with fail
      refine Xs.start [w1.heap.size+1,xb2] 16 kr ?_;refine Xst 0 ?_;refine Xst 1 ?_;refine Xst 2 ?_;refine Xst 3 ?_;refine Xst 4 ?_;refine Xst 5 ?_;refine Xst 6 ?_;refine Xst 7 ?_;refine Xst 8 ?_;refine Xst 9 ?_;refine Xst 10 ?_;refine Xst 11 ?_;refine Xst 12 ?_;refine Xst 13 ?_;refine Xscl 14 fun w12 hE12 hX12 K hKK=>?_;go_simp;refine(HSP _ (itt.ext hX12) (iee.ext hX12)).out.mono ?_;rintro e w13 ⟨S,cS,rfl,iS,x13,fS⟩;refine hKK _ _ x13 ?_;clear hKK;refine ptm ?_;refine Xscl 15 fun w14 hE14 hX14 K hKK=>?_;go_simp;have bS:=Blk.new w14 22 (flatT [⟨S,cS,sp⟩]).toArray;refine hKK _ _ (Ext.alloc _ _) ?_;clear hKK;refine ptm ?_;refine Xs.stop dK (fun w15 hE15 hX15=>?_);refine Xsp 16 fun w16 hE16 hK16 K hKK=>?_;have x16:=hX15.trans hE16;have HM16:=HM2.ext x16;have b16:=(bS.ext hE15).ext hE16;refine wp_app _ _ _ _ rfl w1.heap.size 22 iT _ 1 24 Tryz.underlying42 jT0 jT1 jT2 jT3 rfl om (some ⟨xb2,xo2,none⟩) txs.length cX2 (flatT txs) rfl HM16.txo _ 1 1 (flatT [⟨S,cS,sp⟩]) rfl rfl (blk_cells b16) (flatT_one _) (by unfold maxLen;have:=HTL.out;omega) (by have:=HTL.out;omega) (by have:=HM16.low (.inl rfl);have:=HM16.blk.lt;omega) ?_;intro X' cX' w17 ho17 hg17 hat17;refine hKK _ _ (WI_kp (KpP.of_grown hg17) (fun i hi=>?_)) (hK16.kpP (KpP.of_grown hg17) (fun i hi=>?_)) ?_
      ·have:xb2=i:=by simpa using hi
       subst this;simp
      ·have:xb2=i:=by simpa using hi
       subst this;simp
      clear hKK;refine ptm ?_;refine Xtk 17 ?_;have bg17:=(KpP.of_grown hg17).blk HM16.blk (own_blk HM16.txo HM16.blk de);refine Xsp 18 fun w18 hE18 hK18 K hKK=>?_;have bg18:=bg17.ext hE18;have u0:=(Blk.c2 bg18).1;have u1:=(Blk.c2 bg18).2.1;have u0f:=(Blk.c2 bg18).2.2.1;have u1f:=(Blk.c2 bg18).2.2.2.1;have uz:=(Blk.c2 bg18).2.2.2.2;go_simp;refine hKK _ _ (WI_setL (WI_refl _ _ _) List.mem_cons_self _ _) (hK18.setL List.mem_cons_self _ _) ?_;clear hKK;refine ptm ?_;refine Xdn fun w19 hE19 hK19=>?_;have iS16:=((((iS.ext hE14).ext (Ext.alloc _ _)).ext hE15).ext hE16);have HM19:=lh ((HM16.text (t:=⟨S,cS,sp⟩) hg17 ho17 hat17 hE18 iS16 (fun _ b' hb hm=>by have h1:=fS b' hb;have h2:=HM2.lt hm;have h3:=hX12.size;omega)).ext hE19);have k17:=KpP.of_grown hg17;have HOa:=OwnS.kp (OwnS.ext HO2 x16) k17 (fun b hb=>own_ne (OwnS.ext HO2 x16) HM16.txo de hb);have HOb:=OwnS.ext HOa hE18;have HO19:=lh (OwnS.ext (OwnS.far HOb (p:=⟨w1.heap.size+1,1,none⟩) (own_blk HOb bg18 de) (.slice X' (txs.length+1) cX')) hE19);have EX19:=(((Ext.app (EXr.trans x16) HM16.txo hg17).trans hE18).setNew (p:=⟨w1.heap.size+1,1,none⟩) (Nat.le_succ _) (.slice X' (txs.length+1) cX')).trans hE19;clear hTi hTw HTL2 htl u0 u1 u0f u1f uz bg18 bg17 HOa HOb k17 ho17 hg17 hat17 b16 bS HM16 HM2 HO2 iS16 hE18 hK18 hE19 hK19 hE16 hK16 x16 hE15 hX15 hE14 hX14 x13 hE12 hX12 HSP kq1 kq2 kq3 kq4 kq5 qm0 qm1 qz0 qz1 qlt o0 o1 o2 tc2 itt iee fS iS
      go_wp2_with fail
      go_roundw
      case rel=>exact⟨1,by go_num,om,⟨X',cX',[⟨S,cS,sp⟩],rfl,HM19.out,HO19.out⟩,EX19⟩
      case measure=>simp[intOf]
     ·have hjI:¬(j:Int)<1:=om;have hl1:tl.map (·.l)=[sp]:=by rw[if_neg om] at htl;exact htl
      have HN2:=lh (show n+2=2*iN.length by have:=HN.out;have:=HLN.out.1;omega);have hn30:n+2<=32:=by have:=HN.out;omega
      have h162:iN.length<=16:=by have:=HLN.out.1;omega
      have HP2:=lh (show Mk (iN.map (·.it)) (eN.map (·.e)) ((txs++tl).map (·.l))/\((txs++tl).map (·.l)).getD 0 []=t by
       rw[List.map_append,hl1];exact⟨HSN.out.1,by rw[getD_lt _ _ _ _ (by rw[List.length_map];have:=HTL.out;omega)];exact HP0.out⟩)
      have HM3:=lh HM2;clear HM2 hl1 htl
      go_wp2_with fail
      go_roundw
      case rel=>exact⟨n+2,A',cA',C',cC',I',cI',X2,cX2,iN,eN,txs++tl,by go_num,HN2,hn30,h162,HM3,HP2,EXr⟩
      case measure=>simp[intOf];omega
   ·have hI1:(n:Int)+1<l.length:=om;have hI2:¬(its.length:Int)<mo:=om;exact T6z1
  ·have hI1:¬(n:Int)+1<l.length:=om;exact T6z1
theorem itemCells {w:World}{base c:Nat}{I:Option Addr}{l:List Hv}(h:OwnS w base 59 6 I l.length c (flatI l)){j:Nat}(hj:j<l.length) :
 ∃(b o:Nat),I=some ⟨b,o,none⟩/\w.cell? ⟨b,o+j*6,none⟩=some (.int .i64 l[j].it.client)/\w.cell? ⟨b,o+j*6+1,none⟩=some (.int .i64 l[j].it.number)/\w.cell? ⟨b,o+j*6+2,none⟩=some (.int .i64 l[j].it.base)/\
  w.cell? ⟨b,o+j*6+3,none⟩=some (.int .i64 l[j].it.e.at_)/\w.cell? ⟨b,o+j*6+4,none⟩=some (.int .i64 l[j].it.e.del)/\w.cell? ⟨b,o+j*6+5,none⟩=some (.slice l[j].A l[j].it.e.ins.length l[j].c):=by
 obtain⟨b,o,hA,hcell⟩:=OwnS.cells h (by intro e;have:=flatI_len l;rw[e] at this;simp at this;omega);obtain⟨h0,h1,h2,h3,h4,h5⟩:=flatI_get l j hj;have one:∀(i:Nat) (v:Value),(flatI l)[i]? = some v->w.cell? ⟨b,o+i,none⟩=some v:=fun i v hv=>by
  obtain⟨l1,e1⟩:=List.getElem?_eq_some_iff.1 hv;rw[hcell i l1,e1]
 refine⟨b,o,hA,one _ _ h0,?_,?_,?_,?_,?_⟩
 ·rw[Nat.add_assoc];exact one _ _ h1
 ·rw[Nat.add_assoc];exact one _ _ h2
 ·rw[Nat.add_assoc];exact one _ _ h3
 ·rw[Nat.add_assoc];exact one _ _ h4
 ·rw[Nat.add_assoc];exact one _ _ h5
end
end Go.Proofs.YtmpcoifnpflapaaGreat
