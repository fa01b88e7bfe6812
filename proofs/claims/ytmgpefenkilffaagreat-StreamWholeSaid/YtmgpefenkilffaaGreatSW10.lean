/- Texts of this proof: Sort G10 G11 G13 M0. -/
import Derived.Test.YtmgpefenkilffaaGreatSW09
import Derived.Shelf.SlSortCmp.WholeK
import Derived.Ground.SlsfProg
import Derived.Test.YtmgpefenkilffaaGreatProg
import Derived.Deep.DrawnRows
set_option linter.all false
set_option maxHeartbeats 1000000
namespace Go.Proofs
open Go.Shelf
def Tryz.sortEnd_ren:Go.Shelf.Ren:=⟨fun|6=>224|15=>204|14=>281|28=>260|29=>261|20=>319|21=>320|22=>321|23=>322|24=>323|25=>324|26=>325|27=>326|46=>336|47=>302|48=>303|49=>337|50=>338|57=>340|n=>n,fun|22=>279|24=>285|25=>353|3=>3|39=>326|0=>0|53=>376|55=>281|4=>4|46=>369|45=>368|50=>286|5=>5|9=>9|66=>401|70=>405|76=>421|77=>399|n=>n,fun|n=>n⟩
def Tryz.sortPair_ren:Go.Shelf.Ren:=⟨fun|6=>142|15=>204|14=>210|28=>260|29=>261|20=>264|21=>265|22=>266|23=>267|24=>268|25=>269|26=>270|27=>271|46=>310|47=>302|48=>303|49=>311|50=>312|57=>334|n=>n,fun|22=>37|24=>54|25=>252|3=>3|39=>326|0=>0|53=>376|55=>281|4=>4|46=>369|45=>368|50=>286|5=>5|9=>9|66=>401|70=>405|76=>421|77=>399|n=>n,fun|n=>n⟩
theorem Tryz.sortPair:Go.Proofs.SlLaysF0.n6 Tryz.prog Tryz.sortPair_ren:={
 mixed:=by kernel_rfl
 f6:=⟨Tryz.f142.name,by decide,Tryz.func142.trans (congrArg some (by kernel_rfl))⟩
 f14:=⟨Tryz.f210.name,by decide,Tryz.func210.trans (congrArg some (by kernel_rfl))⟩
 f15:=Tryz.func204.trans (congrArg some (by kernel_rfl))
 f20:=⟨Tryz.f264.name,by decide,Tryz.func264.trans (congrArg some (by kernel_rfl))⟩
 f21:=⟨Tryz.f265.name,by decide,Tryz.func265.trans (congrArg some (by kernel_rfl))⟩
 f22:=⟨Tryz.f266.name,by decide,Tryz.func266.trans (congrArg some (by kernel_rfl))⟩
 f23:=⟨Tryz.f267.name,by decide,Tryz.func267.trans (congrArg some (by kernel_rfl))⟩
 f24:=⟨Tryz.f268.name,by decide,Tryz.func268.trans (congrArg some (by kernel_rfl))⟩
 f25:=⟨Tryz.f269.name,by decide,Tryz.func269.trans (congrArg some (by kernel_rfl))⟩
 f26:=⟨Tryz.f270.name,by decide,Tryz.func270.trans (congrArg some (by kernel_rfl))⟩
 f27:=⟨Tryz.f271.name,by decide,Tryz.func271.trans (congrArg some (by kernel_rfl))⟩
 f28:=Tryz.func260.trans (congrArg some (by kernel_rfl))
 f29:=Tryz.func261.trans (congrArg some (by kernel_rfl))
 f46:=⟨Tryz.f310.name,by decide,Tryz.func310.trans (congrArg some (by kernel_rfl))⟩
 f47:=Tryz.func302.trans (congrArg some (by kernel_rfl))
 f48:=Tryz.func303.trans (congrArg some (by kernel_rfl))
 f49:=⟨Tryz.f311.name,by decide,Tryz.func311.trans (congrArg some (by kernel_rfl))⟩
 f50:=⟨Tryz.f312.name,by decide,Tryz.func312.trans (congrArg some (by kernel_rfl))⟩
 f57:=⟨Tryz.f334.name,by decide,Tryz.func334.trans (congrArg some (by kernel_rfl))⟩
 t0:=Tryz.underlying0
 a0:=Tryz.isAgg0
 z0:=Tryz.sizeOf0
 v0:=Tryz.zeroValue0
 t3:=Tryz.underlying3
 a3:=Tryz.isAgg3
 z3:=Tryz.sizeOf3
 v3:=Tryz.zeroValue3
 t4:=Tryz.underlying4
 a4:=Tryz.isAgg4
 z4:=Tryz.sizeOf4
 v4:=Tryz.zeroValue4
 t5:=Tryz.underlying5
 a5:=Tryz.isAgg5
 z5:=Tryz.sizeOf5
 v5:=Tryz.zeroValue5
 t9:=Tryz.underlying9
 a9:=Tryz.isAgg9
 z9:=Tryz.sizeOf9
 v9:=Tryz.zeroValue9
 t22:=Tryz.underlying37
 a22:=Tryz.isAgg37
 z22:=Tryz.sizeOf37
 v22:=Tryz.zeroValue37
 t25:=Tryz.underlying252
 a25:=Tryz.isAgg252
 z25:=Tryz.sizeOf252
 v25:=Tryz.zeroValue252
 t39:=Tryz.underlying326
 a39:=Tryz.isAgg326
 z39:=Tryz.sizeOf326
 v39:=Tryz.zeroValue326
 t45:=Tryz.underlying368
 a45:=Tryz.isAgg368
 z45:=Tryz.sizeOf368
 v45:=Tryz.zeroValue368
 t46:=Tryz.underlying369
 a46:=Tryz.isAgg369
 z46:=Tryz.sizeOf369
 v46:=Tryz.zeroValue369
 t50:=Tryz.underlying286
 a50:=Tryz.isAgg286
 z50:=Tryz.sizeOf286
 v50:=Tryz.zeroValue286
 t53:=Tryz.underlying376
 a53:=Tryz.isAgg376
 z53:=Tryz.sizeOf376
 v53:=Tryz.zeroValue376
 t55:=Tryz.underlying281
 a55:=Tryz.isAgg281
 z55:=Tryz.sizeOf281
 v55:=Tryz.zeroValue281
 t66:=Tryz.underlying401
 a66:=Tryz.isAgg401
 z66:=Tryz.sizeOf401
 v66:=Tryz.zeroValue401
 t70:=Tryz.underlying405
 a70:=Tryz.isAgg405
 z70:=Tryz.sizeOf405
 v70:=Tryz.zeroValue405
 t76:=Tryz.underlying421
 a76:=Tryz.isAgg421
 z76:=Tryz.sizeOf421
 v76:=Tryz.zeroValue421
 t77:=Tryz.underlying399
 a77:=Tryz.isAgg399
 z77:=Tryz.sizeOf399
 v77:=Tryz.zeroValue399 }
end Go.Proofs
namespace Go.Proofs.YtmgpefenkilffaaGreat
section
open Go.RowKit
abbrev GS:={ s:Sp // goodS s }
instance:Inhabited GS:=⟨⟨(0,0),by unfold goodS;omega⟩⟩
def RetCl (l:List Sp)(w:World)(e:Ending)(w':World):Prop:=∃(A':Option Addr) (c':Nat),e=.returned (.slice A' l.length c')/\OwnP w' w.heap.size A' c' l/\Ext w w'
theorem cloneS_any (A:Option Addr)(c:Nat)(l:List Sp)(w:World)(hl:SL w A c l)(hb:l.length<=1000000) :
 Calls Tryz.prog 131 #[.slice A l.length c] w (RetCl l w):=by
 obtain⟨iS,jS0,jS1,jS2,jS3⟩:=info_parts infoS
 cases A with
 | none=>
  have hl0:l=[]:=by
   rcases l with _|⟨x,l⟩
   ·rfl
   ·obtain⟨b,o,h,_⟩:=hl.at_ si;cases h
  subst hl0;have hn:=fun wx=>Lib.run_eql_slice_nil (P:=Tryz.prog) wx 58 81 none 0 c 0 0 Tryz.underlying58;go_enter Tryz.func131,Tryz.ntmps131
  go_wp2
  go_ret
  exact⟨none,0,rfl,OwnP.nil _ _,Ext.rfl' _⟩
 | some ad=>
  have hn:=fun wx=>Lib.run_eql_slice_nil (P:=Tryz.prog) wx 58 81 (some ad) l.length c 0 0 Tryz.underlying58;simp only[Option.isNone_some] at hn;have hm:=hl.len;have hown:OwnS (w.alloc (.cells #[] 81)) w.heap.size 81 2 (some ⟨w.heap.size,0,none⟩) 0 0 []:=
   OwnS.of_blk (Blk.new w 81 #[]) (Nat.le_refl _) rfl (Nat.le_refl _) (Nat.zero_le _)
  have hcl:=(hl.ext (Ext.alloc w (.cells #[] 81))).cells;have h1:=flatS_one l;have HFL:=lh (flatS_len l);have H63:=lh (show 0+l.length<=maxLen by unfold maxLen;omega);have H8:=lh (show(0+l.length)*16<=140737488355328 by omega);clear hb;go_enter Tryz.func131,Tryz.ntmps131
  go_wp2_with ((at_builtin;refine wpList_app _ rfl _ _ _ rfl w.heap.size 81 iS _ 2 16 Tryz.underlying58 jS0 jS1 jS2 jS3 rfl om _ 0 0 [] rfl hown _ l.length c (flatS l) rfl HFL.out hcl h1 H63.out H8.out si ?_;intro A' c' w' hown' hg hat))
  go_ret
  simp only[List.nil_append,Nat.zero_add] at hown';have hE:Ext w w':=(Ext.alloc w (.cells #[] 81)).grown hg si;exact⟨A',c',by simp,hown',hE⟩
theorem okL_canon {l:List Sp}(h:OkL l):Canon l/\∀s∈l,goodS s:=by
 have hg:∀i (hi:i<l.length),goodS l[i]:=fun i hi=>(h i hi hi).1;have hadj:∀i (hi:i+1<l.length),l[i].2+2<=l[i+1].1:=fun i hi=>by
  have:=(h (i+1) hi hi).2 om;simp only[Nat.add_sub_cancel] at this
  rwa [List.getD_eq_getElem?_getD,List.getElem?_eq_getElem om] at this
 have hall:∀d i (hi:i+d+1<l.length),l[i].2+2<=(l[i+d+1]'hi).1:=by
  intro d;induction d with
  | zero=>exact fun i hi=>hadj i hi
  | succ d ih=>
   intro i hi;have h1:=ih i om;have h2:=hg (i+d+1) om;have h3:=hadj (i+d+1) om;unfold goodS at h2;have e:i+(d+1)+1=i+d+1+1:=om;simp only[e];omega
 refine⟨⟨fun s hs=>?_,List.pairwise_iff_getElem.2 (fun i j hi hj hij=>?_)⟩,fun s hs=>?_⟩
 ·obtain⟨i,hi,rfl⟩:=List.getElem_of_mem hs;exact(hg i hi).2.1
 ·obtain⟨d,rfl⟩:∃d,j=i+d+1:=⟨j-i-1,om⟩;exact hall d i hj
 ·obtain⟨i,hi,rfl⟩:=List.getElem_of_mem hs;exact hg i hi
end
section
open Go.RowKit
attribute [local go_sem ↓] Go.wp_at_zero Go.wp_at_succ
def NdP (w:World)(b o:Nat)(n:Nd):Prop:=∀i (h:i<n.cs.length),w.cell? ⟨b,o+i,none⟩=some n.cs[i]
theorem NdP.ext {w w':World}{b o:Nat}{n:Nd}(h:NdP w b o n)(x:Ext w w'):NdP w' b o n:=fun i hi=>x.cell (h i hi)
end
end Go.Proofs.YtmgpefenkilffaaGreat
