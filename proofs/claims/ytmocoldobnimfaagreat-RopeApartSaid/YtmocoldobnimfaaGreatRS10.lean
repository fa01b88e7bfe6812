/- Texts of this proof: E16 E19 K2 K3 K4 K5 K6 K13 K14 K12 J2. -/
import Derived.Test.YtmocoldobnimfaaGreatRS07
import Derived.Test.YtmocoldobnimfaaGreatRS08
set_option linter.all false
set_option maxRecDepth 100000
set_option maxHeartbeats 16000000
namespace Go.Proofs.YtmocoldobnimfaaGreat
section
open Go.RowKit
theorem take_one (t:List Int)(k:Nat)(h:k<t.length):t.take (k+1)=t.take k++[t[k]]:=List.take_succ_eq_append_getElem h
theorem drop_take_one (t:List Int)(m k:Nat)(hm:m<=k)(h:k<t.length):(t.drop m).take (k+1-m)=(t.drop m).take (k-m)++[t[k]]:=by
 have e:k+1-m=(k-m)+1:=om;rw[e,List.take_succ_eq_append_getElem (by simp;omega)]
 congr 2
 rw[List.getElem_drop]
 congr 1;omega
theorem rSplice_any (T:Option Addr)(tc:Nat)(t:List Int)(a d:Int)(A:Option Addr)(c:Nat)(l:List Int)(w:World)(ht:IL w T tc t)(hl:IL w A c l)
 (hlen:t.length<=1000000000) (hlen2:l.length<=1000000000) (h1:0<=a) (h2:0<=d) (h3:a+d<=t.length) :
 Calls Tryz.prog 56 #[.slice T t.length tc,.agg #[.int .i64 a,.int .i64 d,.slice A l.length c]] w (RetIL (spliceL t a d l) w):=by
 obtain⟨i0,hi0,hz0,hz1,hz2⟩:=info_parts infoInt;obtain⟨an,rfl⟩:∃n:Nat,a=n:=⟨a.toNat,om⟩;obtain⟨dn,rfl⟩:∃n:Nat,d=n:=⟨d.toNat,om⟩;obtain⟨m,hm⟩:∃m:Nat,(an:Int)+(dn:Int)=(m:Int):=⟨an+dn,om⟩;have HSL:=lh (show spliceL t an dn l=(t.take an++l)++(t.drop m).take (t.length-m) by
  have e:(t.drop m).take (t.length-m)=t.drop m:=List.take_of_length_le si;rw[e];simp[spliceL,hm])
 obtain⟨a1,a2⟩:=ht.len;obtain⟨B0,X0⟩:=alloc1 w 102 #[.int .i64 an,.int .i64 dn,.slice A l.length c];have hrt:=ht.rng;have hrl:=hl.rng;have hm1:an<=m:=om;have hm2:m<=t.length:=om;go_enter Tryz.func56,Tryz.ntmps56
 go_wp2
 generalize hW:w.alloc (.cells #[.int .i64 an,.int .i64 dn,.slice A l.length c] 102)=W at *;have hg0:w.heap.size<W.heap.size:=by rw[<-hW];simp
 clear hW;replace ht:=ht.ext X0;replace hl:=hl.ext X0;generalize hg:w.heap.size=g at *
 go_loopw [5,6] (fun v i wr=>∃(k:Nat) (A':Option Addr) (c':Nat) (xs:List Int),k<=an/\i=.int .i64 k/\Hid (xs=t.take k)/\v=.slice A' xs.length c'/\OwnI wr W.heap.size 3 A' c' xs/\Ext W wr) (fun _ i _=>an-(intOf i).toNat)
 case atStart=>exact⟨0,none,0,[],Nat.zero_le _,rfl,rfl,rfl,OwnS.nil _ _ _ _,Ext.rfl' _⟩
 case round=>
  obtain⟨k,A',c',xs,hk,rfl,hxs,rfl,hown,hext⟩:=hrel;obtain⟨p0,p1,p2,_,_,_,pz⟩:=(B0.ext hext).c3;have hxl:xs.length<=1000000000:=by rw[hxs.out];simp;omega
  by_cases hlt:k<an
  ·obtain⟨pb,po,rfl,g1⟩:=(ht.ext hext).get (show k<t.length by omega);have hb1:=World.block_lt_of_cell? _ _ g1;have hlt2:(k:Int)<an:=om;have hlt3:k<t.length:=om;have hlt4:(k:Int)<t.length:=om;have HS:=lh (show t.take (k+1)=xs++[t[k]] by rw[hxs.out];exact take_one t k hlt3);clear hxs;generalize t[k]=x at *;obtain⟨ys,hys⟩:∃ys,ys=t.take (k+1):=⟨_,rfl⟩;have HY:=lh hys;have HY2:=lh (hys.trans HS.out);clear hys HS
   go_wp2_with ((at_builtin;refine wpList_app1I (w1:=wr) rfl _ _ _ rfl 3 infoInt Tryz.underlying22 W hext x rfl A' c' xs rfl hown rfl om ys HY2.out ?_;intro A2 c2 w2 hown2 hext2 _ _))
   go_roundw
   case rel=>exact⟨k+1,A2,c2,ys,om,by go_num,HY,rfl,hown2,hext2⟩
   case measure=>simp[intOf];omega
  ·have hk':k=an:=om;subst hk';have H63:=lh (show xs.length+l.length<=maxLen by unfold maxLen;omega);have H8:=lh (show(xs.length+l.length)*8<=140737488355328 by omega);have HCL:=lh (hl.ext hext).cells;have H1:=lh (ints_one l);have HSZ:=lh hext.size;have HO:=lh hown;have hzz:g<wr.heap.size:=pz;unfold OwnI at HO;clear hown
   go_wp2_with ((at_builtin;refine wpList_app _ rfl _ _ _ rfl W.heap.size 3 i0 (.int .i64 0) 1 8 Tryz.underlying22 hi0 hz0 hz1 hz2 rfl om _ xs.length c' (xs.map (Value.int .i64)) rfl HO.out _ l.length c (l.map (Value.int .i64)) rfl si HCL.out H1.out H63.out H8.out HSZ.out ?_;intro A2 c2 w2 hown2 hg2 _;have hext2:=hext.app HO.out hg2;have B2:=B0.ext hext2;obtain⟨q0,q1,q2,_,_,_,qz⟩:=B2.c3))
   obtain⟨zs,hzs⟩:∃zs,zs=xs++l:=⟨_,rfl⟩;have hzl:zs.length=xs.length+l.length:=by rw[hzs];simp
   have hzl2:zs.length<=2000000000:=om;have HZ:=lh (show zs=t.take k++l by rw[hzs,hxs.out]);replace hown2:OwnI w2 W.heap.size 3 A2 c2 zs:=by unfold OwnI;rw[hzl,hzs,List.map_append];exact hown2
   have HZL:=lh hzl.symm;rw[HZL.out];clear hzs hzl H63 H8 HCL H1 HSZ HO hg2 p0 p1 p2 hext hxs hzz HZL
   go_loopw [5,7] (fun v i wr=>∃(j:Nat) (A':Option Addr) (c':Nat) (xs:List Int),m<=j/\j<=t.length/\i=.int .i64 j/\Hid (xs=zs++(t.drop m).take (j-m))/\v=.slice A' xs.length c'/\OwnI wr W.heap.size 3 A' c' xs/\Ext W wr) (fun _ i _=>t.length-(intOf i).toNat)
   case atStart=>exact⟨m,A2,c2,zs,Nat.le_refl _,hm2,by(first|rw[hm]|rfl),lh si,rfl,hown2,hext2⟩
   case round=>
    clear hown2 hext2;obtain⟨j,A',c',ys,hj1,hj2,rfl,hys,rfl,hown,hext⟩:=hrel;have hyl:ys.length<=4000000000:=by rw[hys.out];simp;omega
    by_cases hlt':j<t.length
    ·obtain⟨pb,po,rfl,g1⟩:=(ht.ext hext).get hlt';have hb1:=World.block_lt_of_cell? _ _ g1;have hlt2:(j:Int)<t.length:=om;have HS:=lh (show zs++(t.drop m).take (j+1-m)=ys++[t[j]] by rw[hys.out,drop_take_one t m j hj1 hlt',List.append_assoc]);clear hys;generalize t[j]=x at *;obtain⟨us,hus⟩:∃us,us=zs++(t.drop m).take (j+1-m):=⟨_,rfl⟩;have HY:=lh hus;have HY2:=lh (hus.trans HS.out);clear hus HS
     go_wp2_with ((at_builtin;refine wpList_app1I (w1:=wr) rfl _ _ _ rfl 3 infoInt Tryz.underlying22 W hext x rfl A' c' ys rfl hown rfl om us HY2.out ?_;intro A2 c2 w2 hown2 hext2 _ _))
     go_roundw
     case rel=>exact⟨j+1,A2,c2,us,om,om,by go_num,HY,rfl,hown2,hext2⟩
     case measure=>simp[intOf];omega
    ·have hj':j=t.length:=om;subst hj';have HF:=lh (show ys=spliceL t k dn l by rw[hys.out,HZ.out,HSL.out]);have hrng:∀x∈ys,I64 x:=by
      intro x hx;rw[HF.out] at hx;simp only[spliceL,List.mem_append] at hx;rcases hx with(hx|hx)|hx
      ·exact hrt x (List.mem_of_mem_take hx)
      ·exact hrl x hx
      ·exact hrt x (List.mem_of_mem_drop hx)
     have HR:=lh hrng;clear hrng hys HZ HSL
     go_wp2
     go_ret
     exact⟨A',c',by rw[<-HF.out];rfl,by rw[<-HF.out];exact IL.of_own hown HR.out,X0.trans hext,fun b hb=>Nat.le_trans X0.size (OwnS.row hown b hb)⟩
end
section
open Go.RowKit
attribute [local go_sem ↓] Go.wp_at_zero Go.wp_at_succ
theorem isD_get {hs:List Hin}{p:Nat}(h:p<hs.length):isD (insL hs) p=decide (hs[p].op=0):=by
 unfold isD;rw[insL_get h];rfl
theorem castL_get {l:List Nat}{k:Nat}(h:k<l.length):(castL l)[k]'(by rw[castL_len];exact h)=(l[k]:Int):=by simp[castL]
def blkO (A:Option Addr):List Nat:=(A.map (·.block)).toList
theorem blkO_mem {A:Option Addr}{b:Nat}:b∈blkO A<->A.map (·.block)=some b:=by unfold blkO;simp
structure StI (a0:World)(G:List Ins)(r:List Nat×List Nat)(A:Option Addr)(c:Nat)(B:Option Addr)(d:Nat)(w:World):Prop where
 l:OwnI w a0.heap.size 3 A c (castL r.1)
 s:OwnI w a0.heap.size 3 B d (castL r.2)
 ap:∀b,A.map (·.block)=some b->B.map (·.block)≠some b
 ok:SeenOk G.length r.2
 len:r.1.length<=r.2.length
def nxUp (G:List Ins)(c:Int)(l:List Nat)(i:Nat):List Nat:=((l.take i).filter (symAt G c)).map (·+1)
theorem nxUp_yes {G:List Ins}{c:Int}{l:List Nat}{i:Nat}(h:i<l.length)(hs:symAt G c l[i]=true):nxUp G c l (i+1)=nxUp G c l i++[l[i]+1]:=by
 unfold nxUp;rw[List.take_succ_eq_append_getElem h,List.filter_append,List.map_append];simp[hs]
theorem nxUp_no {G:List Ins}{c:Int}{l:List Nat}{i:Nat}(h:i<l.length)(hs:symAt G c l[i]=false):nxUp G c l (i+1)=nxUp G c l i:=by
 unfold nxUp;rw[List.take_succ_eq_append_getElem h,List.filter_append,List.map_append];simp[hs]
theorem nxUp_all (G:List Ins)(c:Int)(l:List Nat):nextG G l c=stateG G (nxUp G c l l.length):=by
 unfold nextG nxUp;rw[List.take_length]
theorem nxUp_len (G:List Ins)(c:Int)(l:List Nat)(i:Nat):(nxUp G c l i).length<=i:=by
 unfold nxUp;rw[List.length_map];exact Nat.le_trans (List.length_filter_le _ _) (by rw[List.length_take];omega)
theorem symAt_get {hs:List Hin}{p:Nat}(h:p<hs.length)(c:Int):symAt (insL hs) c p=(decide (hs[p].op=1)&&has hs[p].l c):=by
 unfold symAt;rw[insL_get h];rfl
theorem nxUp_lt {hs:List Hin}{runes:Bool}{caps:Int}(hG:GOk runes caps (insL hs)){c:Int}{l:List Nat}(hl:∀p∈l,p<hs.length)(i:Nat):∀q∈nxUp (insL hs) c l i,q<hs.length:=by
 intro q hq;unfold nxUp at hq;obtain⟨p,hp,rfl⟩:=List.mem_map.1 hq;obtain⟨hp1,hp2⟩:=List.mem_filter.1 hp;have hpl:=hl p (List.mem_of_mem_take hp1);rw[symAt_get hpl] at hp2;simp only[Bool.and_eq_true,decide_eq_true_eq] at hp2;have:=hG.next (k:=p) (by rw[insL_len];exact hpl) (by rw[insL_getElem];exact .inl hp2.1)
 rwa [insL_len] at this
structure Hl where
 A:Option Addr
 c:Nat
 l:List Nat
def flatL (hs:List Hl):List Value:=hs.map fun h=>.slice h.A (castL h.l).length h.c
structure LN (w:World)(A:Option Addr)(c:Nat)(hs:List Hl):Prop where
 le:hs.length<=c
 cap:c<=maxLen
 il:∀h∈hs,IL w h.A h.c (castL h.l)
 at_:hs≠[]->∃b o,A=some ⟨b,o,none⟩/\∀i (h:i<hs.length),w.cell? ⟨b,o+i,none⟩=some (.slice hs[i].A (castL hs[i].l).length hs[i].c)
namespace LN
variable {w w':World} {A:Option Addr} {c:Nat} {hs:List Hl}
end LN
def stsOf (hs:List Hl):List (List Nat):=hs.map (·.l)
theorem stsOf_len (hs:List Hl):(stsOf hs).length=hs.length:=by simp[stsOf]
def plc (L:List (List Nat))(s:List Nat):Int:=if s∈L then(L.idxOf s:Nat) else -1
end
section
open Go.RowKit
structure Hz where
 A:Option Addr
 c:Nat
 l:List Int
def flatZ (hs:List Hz):List Value:=hs.map fun h=>.slice h.A h.l.length h.c
structure SZ (w:World)(base:Nat)(A:Option Addr)(c:Nat)(hs:List Hz):Prop where
 own:OwnS w base 22 1 A hs.length c (flatZ hs)
 il:∀h∈hs,IL w h.A h.c h.l
 ap:∀h∈hs,h.l≠[]->∀b,h.A.map (·.block)=some b->A.map (·.block)≠some b
namespace SZ
variable {w w':World} {base c:Nat} {A:Option Addr} {hs:List Hz}
end SZ
structure WdI (f:St->Int->St)(cs:List Int)(dn:St->Bool)(R:List St)(s:St)(hs:List St)(ws:List (List Int))(i k:Nat):Prop where
 len:ws.length=hs.length
 head:s∈hs
 nd:hs.Nodup
 inR:∀x∈hs,x=s\/x∈R
 word:∀j (h1:j<hs.length) (h2:j<ws.length),ws[j].foldl f s=hs[j]/\∀c∈ws[j],c∈cs
 clo:∀j (h1:j<hs.length) q (h2:q<cs.length),j<i\/(j=i/\q<k)->dn (f hs[j] cs[q])=false/\(f hs[j] cs[q]=[]\/f hs[j] cs[q]∈hs)
namespace WdI
variable {f:St->Int->St} {cs:List Int} {dn:St->Bool} {R:List St} {s:St} {hs:List St} {ws:List (List Int)} {i k:Nat}
end WdI
theorem stateG_len {G:List Ins}(fs:List Nat):(stateG G fs).length<=G.length:=by
 have h1:∀(r:List Nat) (s:List Nat×List Nat),SeenOk G.length s.2->s.1.length<=s.2.length->(r.foldl (addR G (G.length+1)) s).1.length<=G.length:=by
  intro r;induction r with
  | nil=>intro s hs hl;have:=hs.len;simp only[List.foldl_nil];omega
  | cons p r ih=>
   intro s hs hl;rw[List.foldl_cons];refine ih _ (addR_ok _ _ _ hs) ?_;have:=addR_len G (G.length+1) s p;omega
 have h2:∀l:List Nat,(cutD G l).length<=l.length:=by
  intro l;induction l with
  | nil=>simp[cutD]
  | cons p r ih=>
   unfold cutD
   split
   ·simp
   ·simp only[List.length_cons];omega
 exact Nat.le_trans (h2 _) (h1 fs ([],[]) (SeenOk.nil _) (Nat.le_refl _))
end
section
open Go.RowKit
attribute [local go_sem ↓] Go.wp_at_zero Go.wp_at_succ
def rrun (G:List Ins)(s:St)(ts:List Int)(fr:Int):St×Int:=runR (nextG G) (doneG G) ts 0 s (if doneG G s=true/\fr=0 then 0 else -1)
theorem rrun_bd (G:List Ins)(s:St)(ts:List Int)(fr:Int) : -1<=(rrun G s ts fr).2/\(rrun G s ts fr).2<=ts.length:=by
 have gen:∀(l:List Int) (k:Nat) (s:St) (last:Int),-1<=last->last<=k->-1<=(runR (nextG G) (doneG G) l k s last).2/\(runR (nextG G) (doneG G) l k s last).2<=(k+l.length:Nat):=by
  intro l;induction l with
  | nil=>intro k s last h1 h2;simp only[runR,List.length_nil];omega
  | cons c l ih=>
   intro k s last h1 h2;rw[runR,List.length_cons];have:=ih (k+1) (nextG G s c) (if doneG G (nextG G s c)=true then((k+1:Nat):Int) else last) (by split<;>omega) (by split<;>omega);omega
 unfold rrun;have:=gen ts 0 s (if doneG G s=true/\fr=0 then 0 else -1) (by split<;>omega) (by split<;>omega)
 simpa using this
end
section
open Go.RowKit
theorem infoI64k:(Tryz.prog.info? 3).map (fun i=>(i.zero,i.size,i.bytes))=some (some (.int .i64 0),1,8):=by kernel_rfl
theorem eqI64k (a b:Int)(n:Nat)(w:World):(Op.equalIn (n+1) 3 (.int .i64 a) (.int .i64 b)).run Tryz.prog w=.ok (a == b) w:=by
 have u3:=Tryz.underlying3;unfold Op.equalIn;go_simp
theorem part2k (a b:Int)(w:World):(part 3 #[.int .i64 a,.int .i64 b] (0*1)).run Tryz.prog w=.ok (.int .i64 a) w/\(part 3 #[.int .i64 a,.int .i64 b] (1*1)).run Tryz.prog w=.ok (.int .i64 b) w:=by
 unfold part;constructor<;>go_simp
theorem eqArr2 (a b c d:Int)(w:World):(Op.equalIn 10000 82 (.agg #[.int .i64 a,.int .i64 b]) (.agg #[.int .i64 c,.int .i64 d])).run Tryz.prog w=.ok (a == c&&b == d) w:=by
 obtain⟨i0,hi0,_⟩:=info_parts infoI64k;have hu:Tryz.prog.underlying 82=some (.array 2 3):=by kernel_rfl
 have hc:Tryz.prog.cellsOf 3=1:=by kernel_rfl
 rw[show(10000:Nat)=9999+1 from rfl,run_equalIn_array w 9999 _ _ hu hi0,hc,show(9999:Nat)=9998+1 from rfl]
 show(Op.eqItems (9998+1) 3 1 _ _ [0,1]).run _ _=_
 unfold Op.eqItems;simp only[Sem.run_bind,(part2k a b w).1,(part2k c d w).1,eqI64k,Result.andThen_ok];by_cases h1:a=c
 ·subst h1;simp only[beq_self_eq_true,Bool.not_true,Bool.false_eq_true,if_false,Bool.true_and];unfold Op.eqItems;simp only[Sem.run_bind,(part2k a b w).2,(part2k a d w).2,eqI64k,Result.andThen_ok];by_cases h2:b=d
  ·subst h2;simp[Op.eqItems]
  ·have:(b == d)=false:=by simpa using h2
   simp[this]
 ·have:(a == c)=false:=by simpa using h1
  simp[this]
end
section
open Go.RowKit
attribute [local go_sem ↓] Go.wp_at_zero Go.wp_at_succ
theorem top_any (gA:Option Addr)(n gc:Nat)(caps:Int)(runes:Bool)(w:World):Calls Tryz.prog 68 #[progV gA n gc caps runes] w (RetV (.int .i64 (topV runes)) w):=by
 unfold progV;cases runes
 ·go_enter Tryz.func68,Tryz.ntmps68
  go_wp2
  go_ret
  exact⟨rfl,Ext.alloc _ _⟩
 ·go_enter Tryz.func68,Tryz.ntmps68
  go_wp2
  go_ret
  exact⟨rfl,Ext.alloc _ _⟩
def RetOut (runes:Bool)(w:World)(e:Ending)(w':World):Prop:=
 ∃(a b:Nat),e=.returned (.func (Fn.func 165) #[] #[.pointer (some ⟨a,0,none⟩),.pointer (some ⟨b,0,none⟩)])/\w'.cell? ⟨a,0,none⟩=some (.int .i64 (topV runes))/\w'.cell? ⟨b,0,none⟩=some (.bool runes)/\Ext w w'
theorem outside_any (runes:Bool)(w:World):Calls Tryz.prog 130 #[.bool runes] w (RetOut runes w):=by
 have hb:=Blk.new w 4 #[.bool runes];have e1:=Ext.alloc w (.cells #[.bool runes] 4);have h1:=fun(t:Int)=>(hb.ext (Ext.alloc (w.alloc (.cells #[.bool runes] 4)) (.cells #[.int .i64 t] 3))).cell 0;have h2:=fun(t:Int)=>(Blk.new (w.alloc (.cells #[.bool runes] 4)) 3 #[.int .i64 t]).cell 0;simp only[World.size_alloc] at h2;replace h1:=lh h1;replace h2:=lh h2;clear hb e1;cases runes
 ·go_enter Tryz.func130,Tryz.ntmps130
  go_wp2
  go_ret
  exact⟨_,_,rfl,h2.out 255,h1.out 255,(Ext.alloc _ _).trans (Ext.alloc _ _)⟩
 ·go_enter Tryz.func130,Tryz.ntmps130
  go_wp2
  go_ret
  exact⟨_,_,rfl,h2.out 1114111,h1.out 1114111,(Ext.alloc _ _).trans (Ext.alloc _ _)⟩
theorem K12z5 {P:Prop} (h:P:=by
 go_enter Tryz.func166,Tryz.ntmps166
 go_wp2
 go_ret
 exact⟨rfl,Ext.rfl' _⟩):P:=h
theorem surr_any (x:Int)(w:World):Calls Tryz.prog 166 #[.int .i64 x] w (RetV (.bool (decide (55296<=x/\x<=57343))) w):=by
 by_cases h1:55296<=x
 ·by_cases h2:x<=57343
  ·rw[decide_eq_true ⟨h1,h2⟩];exact K12z5
  ·rw[decide_eq_false (fun h=>h2 h.2)];exact K12z5
 ·rw[decide_eq_false (fun h=>h1 h.1)];exact K12z5
theorem K12z2 {P:Prop} (h:P:=by
 go_enter Tryz.func165,Tryz.ntmps165
 go_wp2
 go_ret
 exact⟨rfl,Ext.rfl' _⟩):P:=h
theorem K12z4 {P:Prop} (h:P:=by
 clear h3;go_enter Tryz.func165,Tryz.ntmps165
 go_wp2_with fail
 refine(hs _).out.mono ?_;rintro e w1 ⟨rfl,x1⟩
 go_wp2_with fail
 go_ret
 exact⟨rfl,x1⟩):P:=h
theorem outC_any (x:Int)(runes:Bool)(a b:Nat)(w:World)(ha:w.cell? ⟨a,0,none⟩=some (.int .i64 (topV runes)))(hb:w.cell? ⟨b,0,none⟩=some (.bool runes)) :
 Calls Tryz.prog 165 #[.int .i64 x,.pointer (some ⟨a,0,none⟩),.pointer (some ⟨b,0,none⟩)] w (RetV (.bool (!symV runes x)) w):=by
 have hs:=fun(w':World)=>lh (surr_any x w');cases runes
 ·have ht:topV false=255:=rfl;rw[ht] at ha;clear ht hs;by_cases h1:x<0
  ·rw[show symV false x=false by simp[symV];omega];exact K12z2
  ·by_cases h2:255<x
   ·rw[show symV false x=false by simp[symV];omega];exact K12z2
   ·rw[show symV false x=true by simp[symV];omega];exact K12z2
 ·have ht:topV true=1114111:=rfl;rw[ht] at ha;clear ht;by_cases h1:x<0
  ·rw[show symV true x=false by simp[symV];omega];exact K12z2
  ·by_cases h2:1114111<x
   ·rw[show symV true x=false by simp[symV];omega];exact K12z2
   ·by_cases h3:55296<=x/\x<=57343
    ·rw[decide_eq_true h3] at hs;rw[show symV true x=false by simp[symV];omega];exact K12z4
    ·rw[decide_eq_false h3] at hs;rw[show symV true x=true by simp[symV];omega];exact K12z4
theorem allV_bad {runes:Bool}{l:List Int}{k:Nat}(hk:k<l.length)(h:symV runes l[k]=false):l.all (symV runes)=false:=by
 rw[List.all_eq_false];exact⟨l[k],List.getElem_mem hk,by simp[h]⟩
theorem allV_step {runes:Bool}{l:List Int}{k:Nat}(hk:k<l.length)(h0:(l.take k).all (symV runes)=true)(h:symV runes l[k]=true):(l.take (k+1)).all (symV runes)=true:=by
 rw[List.take_succ_eq_append_getElem hk,List.all_append,h0];simp[h]
theorem tindex_any (A:Option Addr)(c:Nat)(l:List Int)(runes:Bool)(a b:Nat)(w:World)(hl:IL w A c l)(ha:w.cell? ⟨a,0,none⟩=some (.int .i64 (topV runes)))(hb:w.cell? ⟨b,0,none⟩=some (.bool runes)) :
 Calls Tryz.prog 164 #[.slice A l.length c,.func (Fn.func 165) #[] #[.pointer (some ⟨a,0,none⟩),.pointer (some ⟨b,0,none⟩)]] w fun e w'=>∃k:Int,e=.returned (.int .i64 k)/\(decide (0<=k) = !l.all (symV runes))/\Ext w w':=by
 obtain⟨a1,a2⟩:=hl.len;go_enter Tryz.func164,Tryz.ntmps164
 go_wp2
 go_loopw [8] (fun i wr=>∃k:Nat,k<=l.length/\i=.int .i64 k/\Hid ((l.take k).all (symV runes)=true)/\Ext w wr) (fun i _=>l.length-(intOf i).toNat)
 case atStart=>exact⟨0,Nat.zero_le _,rfl,rfl,Ext.rfl' _⟩
 case round=>
  obtain⟨k,hk,rfl,ht,hext⟩:=hrel;by_cases hlt:k<l.length
  ·obtain⟨p1,o1,rfl,g1⟩:=hl.get hlt;replace g1:=hext.cell g1;have hlt2:(k:Int)<l.length:=om;have HC:=lh (outC_any l[k] runes a b wr (hext.cell ha) (hext.cell hb));by_cases hs:symV runes l[k]=true
   ·have hs2:=lh (allV_step hlt ht.out hs);rw[hs] at HC;generalize l[k]=y at *;clear hs ht
    go_wp2_with fail
    refine HC.out.mono ?_;rintro e w1 ⟨rfl,hx1⟩;have xf:=hext.trans hx1
    go_wp2
    go_roundw
    case rel=>exact⟨k+1,om,by go_num,hs2,xf⟩
    case measure=>simp[intOf];omega
   ·have hs1:symV runes l[k]=false:=by simpa using hs
    have hbad:=lh (allV_bad hlt hs1);rw[hs1] at HC;generalize l[k]=y at *;clear hs ht hs1
    go_wp2_with fail
    refine HC.out.mono ?_;rintro e w1 ⟨rfl,hx1⟩
    go_wp2
    go_ret
    exact⟨_,rfl,by rw[hbad.out];simp,hext.trans hx1⟩
  ·go_wp2
   go_ret
   have h1:=ht.out;rw[List.take_of_length_le om] at h1;exact⟨_,rfl,by rw[h1];simp,hext⟩
theorem tcontains_any (A:Option Addr)(c:Nat)(l:List Int)(runes:Bool)(a b:Nat)(w:World)(hl:IL w A c l)(ha:w.cell? ⟨a,0,none⟩=some (.int .i64 (topV runes)))(hb:w.cell? ⟨b,0,none⟩=some (.bool runes)) :
 Calls Tryz.prog 129 #[.slice A l.length c,.func (Fn.func 165) #[] #[.pointer (some ⟨a,0,none⟩),.pointer (some ⟨b,0,none⟩)]] w (RetV (.bool (!l.all (symV runes))) w):=by
 have HX:=lh (tindex_any A c l runes a b w hl ha hb);generalize l.all (symV runes)=al at *;cases al
 ·go_enter Tryz.func129,Tryz.ntmps129
  go_wp2_with fail
  refine HX.out.mono ?_;rintro e w2 ⟨k,rfl,hk,x2⟩;have hk0:decide (0<=k)=true:=hk;clear hk
  go_wp2_with fail
  go_ret
  exact⟨rfl,x2⟩
 ·go_enter Tryz.func129,Tryz.ntmps129
  go_wp2_with fail
  refine HX.out.mono ?_;rintro e w2 ⟨k,rfl,hk,x2⟩;have hk0:decide (0<=k)=false:=hk;clear hk
  go_wp2_with fail
  go_ret
  exact⟨rfl,x2⟩
def textE (runes:Bool)(l:List Int):Int:=if 65536<l.length then 4 else if l.all (symV runes)=true then 0 else 5
theorem K12z3 {P:Prop} (h:P:=by
 go_enter Tryz.func79,Tryz.ntmps79
 go_wp2_with fail
 refine HO.out.mono ?_;rintro e w1 ⟨a,b,rfl,h1,h2,x1⟩;have HX2:=HX a b w1 x1 h1 h2;clear HX
 go_wp2_with fail
 refine HX2.out.mono ?_;rintro e w2 ⟨rfl,x2⟩
 go_wp2_with fail
 go_ret
 exact⟨rfl,x1.trans x2⟩):P:=h
theorem tvalid_any (A:Option Addr)(c:Nat)(l:List Int)(runes:Bool)(w:World)(hl:IL w A c l):Calls Tryz.prog 79 #[.slice A l.length c,.bool runes] w (RetV (.int .i64 (textE runes l)) w):=by
 have hcap:=hl.len;by_cases hb:65536<l.length
 ·have hbI:(65536:Int)<l.length:=om;have e:textE runes l=4:=by unfold textE;rw[if_pos hb]
  rw[e];clear e;go_enter Tryz.func79,Tryz.ntmps79
  go_wp2
  go_ret
  exact⟨rfl,Ext.rfl' _⟩
 ·have hbI:¬(65536:Int)<l.length:=om;have HO:=lh (outside_any runes w);have e:textE runes l=if l.all (symV runes)=true then 0 else 5:=by unfold textE;rw[if_neg hb]
  rw[e];clear e hb;have HX:=fun(a b:Nat) (w':World) (x:Ext w w') h1 h2=>lh (tcontains_any A c l runes a b w' (hl.ext x) h1 h2);generalize l.all (symV runes)=al at *;cases al
  ·exact K12z3
  ·exact K12z3
end
section
open Go.RowKit
def mkC (A:Option Addr)(n c:Nat)(at_ uses left caps:Int):Array Value:=#[.slice A n c,.int .i64 at_,.int .i64 uses,.int .i64 left,.int .i64 caps]
structure MkM (w w0:World)(gm:Nat)(A:Option Addr)(c:Nat)(ls:List Int)(uses B:Int):Prop where
 ext:Ext w0 w
 il:IL w0 A c ls
 lo:w0.heap.size<=gm
 blk:∃(at_:Nat) (left caps:Int),Blk w gm 251 (mkC A ls.length c at_ uses left caps)/\(at_:Int)<=B/\-B<=left/\left<=1000/\0<=caps/\caps<=4
theorem MkM.extW {w w' w0:World}{gm:Nat}{A:Option Addr}{c:Nat}{ls:List Int}{uses B:Int}(h:MkM w w0 gm A c ls uses B)(x:Ext w w'):MkM w' w0 gm A c ls uses B:=by
 obtain⟨h1,h2,h3,at_,left,caps,h4,h5⟩:=h;exact⟨h1.trans x,h2,h3,at_,left,caps,h4.ext x,h5⟩
theorem MkM.mono {w w0:World}{gm:Nat}{A:Option Addr}{c:Nat}{ls:List Int}{uses B B':Int}(h:MkM w w0 gm A c ls uses B)(hB:B<=B'):MkM w w0 gm A c ls uses B':=by
 obtain⟨h1,h2,h3,at_,left,caps,h4,h5,h6,h7⟩:=h;exact⟨h1,h2,h3,at_,left,caps,h4,om,om,h7⟩
theorem MkM.kpR {w w' w0:World}{gm g:Nat}{A:Option Addr}{c:Nat}{ls:List Int}{uses B:Int}(h:MkM w w0 gm A c ls uses B)(k:KpP (·=g) w w')(hg:gm≠g)(h0:w0.heap.size<=g):MkM w' w0 gm A c ls uses B:=by
 obtain⟨h1,h2,h3,at_,left,caps,h4,h5⟩:=h;exact⟨h1.kp k (fun i hi=>hi▸h0),h2,h3,at_,left,caps,k.blk h4 hg,h5⟩
theorem pick_bd (l:List Int)(i:Nat)(m:Int)(h:1<=m):0<=pick l i m/\pick l i m<m:=by
 unfold pick
 split
 ·exact around_bd _ _ h
 ·omega
def RetNx (w0:World)(gm:Nat)(A:Option Addr)(c:Nat)(ls:List Int)(uses B n:Int)(w:World)(e:Ending)(w':World):Prop:=
 ∃v:Int,e=.returned (.int .i64 v)/\0<=v/\v<n/\MkM w' w0 gm A c ls uses B/\KpP (·=gm) w w'
def RetNxE (w0:World)(gm:Nat)(A:Option Addr)(n c:Nat)(at_ uses left caps v:Int)(w:World)(e:Ending)(w':World):Prop:=
 e=.returned (.int .i64 v)/\Blk w' gm 251 (mkC A n c at_ uses left caps)/\Ext w0 w'/\KpP (·=gm) w w'
theorem ynext_at (w0 w:World)(gm:Nat)(A:Option Addr)(c:Nat)(ls:List Int)(uses n:Int)(x0:Ext w0 w)(il:IL w0 A c ls)(lo:w0.heap.size<=gm)(at_:Nat)(left caps:Int)(hb:Blk w gm 251 (mkC A ls.length c at_ uses left caps))(hat:(at_:Int)<=100000000)
 (h0:1<=n) (h1:n<=1000) :
 Calls Tryz.prog 184 #[.pointer (some ⟨gm,0,none⟩),.int .i64 n] w (RetNxE w0 gm A ls.length c ((at_:Int)+1) uses left caps (pick ls at_ n) w):=by
 have c1:w.cell? ⟨gm,1,none⟩=some (.int .i64 at_):=hb.cell 1;have f1:=hb.frz 1;have ewp:IntKind.i64.wrap ((at_:Int)+1)=(at_:Int)+1:=wj;have hll:=il.len;go_enter Tryz.func184,Tryz.ntmps184
 go_upto_region 2 with fail
 have K2:KpP (·=gm) w (w.setCell ⟨gm,1,none⟩ (.int .i64 ((at_:Int)+1))):=KpP.set (p:=(·=gm)) (x:=⟨gm,1,none⟩) (KpP.refl _ _) (.inl rfl) _;have X2:Ext w0 (w.setCell ⟨gm,1,none⟩ (.int .i64 ((at_:Int)+1))):=x0.setNew (p:=⟨gm,1,none⟩) lo _;have b2:=hb.set 1 (.int .i64 ((at_:Int)+1));generalize w.setCell ⟨gm,1,none⟩ (.int .i64 ((at_:Int)+1))=w2 at *;have d0:w2.cell? ⟨gm,0,none⟩=some (.slice A ls.length c):=b2.cell 0;have d1:w2.cell? ⟨gm,1,none⟩=some (.int .i64 ((at_:Int)+1)):=b2.cell 1;have ewm:IntKind.i64.wrap ((at_:Int)+1-1)=(at_:Int):=wj;have HI:=lh (il.ext X2);have HB2:=lh b2;clear b2 c1 f1 hb
 go_wp2_with (go_quiet (first|(go_at_call 37;refine Calls.quiet_of (pick_any A c ls at_ n _ (HI.out.ext (Ext.drewN _ _)) h0 om om))))
 go_ret
 refine⟨rfl,?_,X2.trans (Ext.drewN _ _),K2.trans (KpP.of_ext (Ext.drewN _ _))⟩;have b:=HB2.out.ext (Ext.drewN w2 nq)
 simpa[mkC] using b
theorem ynext_any (w0 w:World)(gm:Nat)(A:Option Addr)(c:Nat)(ls:List Int)(uses B n:Int)(h:MkM w w0 gm A c ls uses B)(hB:B<=100000000)(h0:1<=n)(h1:n<=1000) :
 Calls Tryz.prog 184 #[.pointer (some ⟨gm,0,none⟩),.int .i64 n] w (RetNx w0 gm A c ls uses (B+1) n w):=by
 obtain⟨x0,il,lo,at_,left,caps,hb,hat,hl1,hl2,hc1,hc2⟩:=h;refine(ynext_at w0 w gm A c ls uses n x0 il lo at_ left caps hb om h0 h1).mono ?_;rintro e w' ⟨h1,h2,h3,h4⟩;have hp:=pick_bd ls at_ n h0;exact⟨_,h1,hp.1,hp.2,⟨h3,il,lo,at_+1,left,caps,by simpa using h2,om,om,om,om,om⟩,h4⟩
end
end Go.Proofs.YtmocoldobnimfaaGreat
