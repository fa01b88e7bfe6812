/- Texts of this proof: Sort G10 G11 G13. -/
import Derived.Test.YtmpcoifnpflapaaGreatER19
import Derived.Shelf.SlSortCmp.WholeK
import Derived.Ground.SlsfProg
import Derived.Test.YtmpcoifnpflapaaGreatProg
set_option linter.all false
set_option maxHeartbeats 1000000
namespace Go.Proofs
open Go.Shelf
def Tryz.sortEnd_ren:Go.Shelf.Ren:=⟨fun|6=>183|15=>186|14=>207|28=>216|29=>217|20=>229|21=>230|22=>231|23=>232|24=>233|25=>234|26=>235|27=>236|46=>248|47=>238|48=>239|49=>249|50=>250|57=>253|n=>n,fun|22=>239|24=>245|25=>295|3=>3|39=>298|0=>0|53=>332|55=>241|4=>4|46=>326|45=>325|50=>246|5=>5|9=>9|66=>344|70=>348|76=>357|77=>337|n=>n,fun|n=>n⟩
theorem Tryz.sortEnd:Go.Proofs.SlLaysF0.n6 Tryz.prog Tryz.sortEnd_ren:={
 mixed:=by kernel_rfl
 f6:=⟨Tryz.f183.name,by decide,Tryz.func183.trans (congrArg some (by kernel_rfl))⟩
 f14:=⟨Tryz.f207.name,by decide,Tryz.func207.trans (congrArg some (by kernel_rfl))⟩
 f15:=Tryz.func186.trans (congrArg some (by kernel_rfl))
 f20:=⟨Tryz.f229.name,by decide,Tryz.func229.trans (congrArg some (by kernel_rfl))⟩
 f21:=⟨Tryz.f230.name,by decide,Tryz.func230.trans (congrArg some (by kernel_rfl))⟩
 f22:=⟨Tryz.f231.name,by decide,Tryz.func231.trans (congrArg some (by kernel_rfl))⟩
 f23:=⟨Tryz.f232.name,by decide,Tryz.func232.trans (congrArg some (by kernel_rfl))⟩
 f24:=⟨Tryz.f233.name,by decide,Tryz.func233.trans (congrArg some (by kernel_rfl))⟩
 f25:=⟨Tryz.f234.name,by decide,Tryz.func234.trans (congrArg some (by kernel_rfl))⟩
 f26:=⟨Tryz.f235.name,by decide,Tryz.func235.trans (congrArg some (by kernel_rfl))⟩
 f27:=⟨Tryz.f236.name,by decide,Tryz.func236.trans (congrArg some (by kernel_rfl))⟩
 f28:=Tryz.func216.trans (congrArg some (by kernel_rfl))
 f29:=Tryz.func217.trans (congrArg some (by kernel_rfl))
 f46:=⟨Tryz.f248.name,by decide,Tryz.func248.trans (congrArg some (by kernel_rfl))⟩
 f47:=Tryz.func238.trans (congrArg some (by kernel_rfl))
 f48:=Tryz.func239.trans (congrArg some (by kernel_rfl))
 f49:=⟨Tryz.f249.name,by decide,Tryz.func249.trans (congrArg some (by kernel_rfl))⟩
 f50:=⟨Tryz.f250.name,by decide,Tryz.func250.trans (congrArg some (by kernel_rfl))⟩
 f57:=⟨Tryz.f253.name,by decide,Tryz.func253.trans (congrArg some (by kernel_rfl))⟩
 t0:=Tryz.underlying0
 a0:=Tryz.isAgg0
 z0:=Tryz.sizeOf0
 v0:=Tryz.zeroValue0
 t3:=Tryz.underlying3
 a3:=Tryz.isAgg3
 z3:=Tryz.sizeOf3
 v3:=Tryz.zeroValue3
 t4:=Tryz.underlying4
 a4:=Tryz.isAgg4
 z4:=Tryz.sizeOf4
 v4:=Tryz.zeroValue4
 t5:=Tryz.underlying5
 a5:=Tryz.isAgg5
 z5:=Tryz.sizeOf5
 v5:=Tryz.zeroValue5
 t9:=Tryz.underlying9
 a9:=Tryz.isAgg9
 z9:=Tryz.sizeOf9
 v9:=Tryz.zeroValue9
 t22:=Tryz.underlying239
 a22:=Tryz.isAgg239
 z22:=Tryz.sizeOf239
 v22:=Tryz.zeroValue239
 t25:=Tryz.underlying295
 a25:=Tryz.isAgg295
 z25:=Tryz.sizeOf295
 v25:=Tryz.zeroValue295
 t39:=Tryz.underlying298
 a39:=Tryz.isAgg298
 z39:=Tryz.sizeOf298
 v39:=Tryz.zeroValue298
 t45:=Tryz.underlying325
 a45:=Tryz.isAgg325
 z45:=Tryz.sizeOf325
 v45:=Tryz.zeroValue325
 t46:=Tryz.underlying326
 a46:=Tryz.isAgg326
 z46:=Tryz.sizeOf326
 v46:=Tryz.zeroValue326
 t50:=Tryz.underlying246
 a50:=Tryz.isAgg246
 z50:=Tryz.sizeOf246
 v50:=Tryz.zeroValue246
 t53:=Tryz.underlying332
 a53:=Tryz.isAgg332
 z53:=Tryz.sizeOf332
 v53:=Tryz.zeroValue332
 t55:=Tryz.underlying241
 a55:=Tryz.isAgg241
 z55:=Tryz.sizeOf241
 v55:=Tryz.zeroValue241
 t66:=Tryz.underlying344
 a66:=Tryz.isAgg344
 z66:=Tryz.sizeOf344
 v66:=Tryz.zeroValue344
 t70:=Tryz.underlying348
 a70:=Tryz.isAgg348
 z70:=Tryz.sizeOf348
 v70:=Tryz.zeroValue348
 t76:=Tryz.underlying357
 a76:=Tryz.isAgg357
 z76:=Tryz.sizeOf357
 v76:=Tryz.zeroValue357
 t77:=Tryz.underlying337
 a77:=Tryz.isAgg337
 z77:=Tryz.sizeOf337
 v77:=Tryz.zeroValue337 }
def Tryz.sortStretch_ren:Go.Shelf.Ren:=⟨fun|6=>135|15=>186|14=>185|28=>216|29=>217|20=>208|21=>209|22=>210|23=>211|24=>212|25=>213|26=>214|27=>215|46=>237|47=>238|48=>239|49=>240|50=>241|57=>251|n=>n,fun|22=>141|24=>249|25=>251|3=>3|39=>298|0=>0|53=>332|55=>241|4=>4|46=>326|45=>325|50=>246|5=>5|9=>9|66=>344|70=>348|76=>357|77=>337|n=>n,fun|n=>n⟩
theorem Tryz.sortStretch:Go.Proofs.SlLaysF0.n6 Tryz.prog Tryz.sortStretch_ren:={
 mixed:=by kernel_rfl
 f6:=⟨Tryz.f135.name,by decide,Tryz.func135.trans (congrArg some (by kernel_rfl))⟩
 f14:=⟨Tryz.f185.name,by decide,Tryz.func185.trans (congrArg some (by kernel_rfl))⟩
 f15:=Tryz.func186.trans (congrArg some (by kernel_rfl))
 f20:=⟨Tryz.f208.name,by decide,Tryz.func208.trans (congrArg some (by kernel_rfl))⟩
 f21:=⟨Tryz.f209.name,by decide,Tryz.func209.trans (congrArg some (by kernel_rfl))⟩
 f22:=⟨Tryz.f210.name,by decide,Tryz.func210.trans (congrArg some (by kernel_rfl))⟩
 f23:=⟨Tryz.f211.name,by decide,Tryz.func211.trans (congrArg some (by kernel_rfl))⟩
 f24:=⟨Tryz.f212.name,by decide,Tryz.func212.trans (congrArg some (by kernel_rfl))⟩
 f25:=⟨Tryz.f213.name,by decide,Tryz.func213.trans (congrArg some (by kernel_rfl))⟩
 f26:=⟨Tryz.f214.name,by decide,Tryz.func214.trans (congrArg some (by kernel_rfl))⟩
 f27:=⟨Tryz.f215.name,by decide,Tryz.func215.trans (congrArg some (by kernel_rfl))⟩
 f28:=Tryz.func216.trans (congrArg some (by kernel_rfl))
 f29:=Tryz.func217.trans (congrArg some (by kernel_rfl))
 f46:=⟨Tryz.f237.name,by decide,Tryz.func237.trans (congrArg some (by kernel_rfl))⟩
 f47:=Tryz.func238.trans (congrArg some (by kernel_rfl))
 f48:=Tryz.func239.trans (congrArg some (by kernel_rfl))
 f49:=⟨Tryz.f240.name,by decide,Tryz.func240.trans (congrArg some (by kernel_rfl))⟩
 f50:=⟨Tryz.f241.name,by decide,Tryz.func241.trans (congrArg some (by kernel_rfl))⟩
 f57:=⟨Tryz.f251.name,by decide,Tryz.func251.trans (congrArg some (by kernel_rfl))⟩
 t0:=Tryz.underlying0
 a0:=Tryz.isAgg0
 z0:=Tryz.sizeOf0
 v0:=Tryz.zeroValue0
 t3:=Tryz.underlying3
 a3:=Tryz.isAgg3
 z3:=Tryz.sizeOf3
 v3:=Tryz.zeroValue3
 t4:=Tryz.underlying4
 a4:=Tryz.isAgg4
 z4:=Tryz.sizeOf4
 v4:=Tryz.zeroValue4
 t5:=Tryz.underlying5
 a5:=Tryz.isAgg5
 z5:=Tryz.sizeOf5
 v5:=Tryz.zeroValue5
 t9:=Tryz.underlying9
 a9:=Tryz.isAgg9
 z9:=Tryz.sizeOf9
 v9:=Tryz.zeroValue9
 t22:=Tryz.underlying141
 a22:=Tryz.isAgg141
 z22:=Tryz.sizeOf141
 v22:=Tryz.zeroValue141
 t25:=Tryz.underlying251
 a25:=Tryz.isAgg251
 z25:=Tryz.sizeOf251
 v25:=Tryz.zeroValue251
 t39:=Tryz.underlying298
 a39:=Tryz.isAgg298
 z39:=Tryz.sizeOf298
 v39:=Tryz.zeroValue298
 t45:=Tryz.underlying325
 a45:=Tryz.isAgg325
 z45:=Tryz.sizeOf325
 v45:=Tryz.zeroValue325
 t46:=Tryz.underlying326
 a46:=Tryz.isAgg326
 z46:=Tryz.sizeOf326
 v46:=Tryz.zeroValue326
 t50:=Tryz.underlying246
 a50:=Tryz.isAgg246
 z50:=Tryz.sizeOf246
 v50:=Tryz.zeroValue246
 t53:=Tryz.underlying332
 a53:=Tryz.isAgg332
 z53:=Tryz.sizeOf332
 v53:=Tryz.zeroValue332
 t55:=Tryz.underlying241
 a55:=Tryz.isAgg241
 z55:=Tryz.sizeOf241
 v55:=Tryz.zeroValue241
 t66:=Tryz.underlying344
 a66:=Tryz.isAgg344
 z66:=Tryz.sizeOf344
 v66:=Tryz.zeroValue344
 t70:=Tryz.underlying348
 a70:=Tryz.isAgg348
 z70:=Tryz.sizeOf348
 v70:=Tryz.zeroValue348
 t76:=Tryz.underlying357
 a76:=Tryz.isAgg357
 z76:=Tryz.sizeOf357
 v76:=Tryz.zeroValue357
 t77:=Tryz.underlying337
 a77:=Tryz.isAgg337
 z77:=Tryz.sizeOf337
 v77:=Tryz.zeroValue337 }
end Go.Proofs
namespace Go.Proofs.YtmpcoifnpflapaaGreat
section
open Go.RowKit
abbrev GS:={ s:Sp // goodS s }
instance:Inhabited GS:=⟨⟨(0,0),by unfold goodS;omega⟩⟩
def RetCl (l:List Sp)(w:World)(e:Ending)(w':World):Prop:=∃(A':Option Addr) (c':Nat),e=.returned (.slice A' l.length c')/\OwnP w' w.heap.size A' c' l/\Ext w w'
theorem cloneS_any (A:Option Addr)(c:Nat)(l:List Sp)(w:World)(hl:SL w A c l)(hb:l.length<=1000000) :
 Calls Tryz.prog 130 #[.slice A l.length c] w (RetCl l w):=by
 obtain⟨iS,jS0,jS1,jS2,jS3⟩:=info_parts infoS
 cases A with
 | none=>
  have hl0:l=[]:=by
   rcases l with _|⟨x,l⟩
   ·rfl
   ·obtain⟨b,o,h,_⟩:=hl.at_ si;cases h
  subst hl0;have hn:=fun wx=>Lib.run_eql_slice_nil (P:=Tryz.prog) wx 25 24 none 0 c 0 0 Tryz.underlying25;go_enter Tryz.func130,Tryz.ntmps130
  go_wp2
  go_ret
  exact⟨none,0,rfl,OwnP.nil _ _,Ext.rfl' _⟩
 | some ad=>
  have hn:=fun wx=>Lib.run_eql_slice_nil (P:=Tryz.prog) wx 25 24 (some ad) l.length c 0 0 Tryz.underlying25;simp only[Option.isNone_some] at hn;have hm:=hl.len;have hown:OwnS (w.alloc (.cells #[] 24)) w.heap.size 24 2 (some ⟨w.heap.size,0,none⟩) 0 0 []:=
   OwnS.of_blk (Blk.new w 24 #[]) (Nat.le_refl _) rfl (Nat.le_refl _) (Nat.zero_le _)
  have hcl:=(hl.ext (Ext.alloc w (.cells #[] 24))).cells;have h1:=flatS_one l;have HFL:=lh (flatS_len l);have H63:=lh (show 0+l.length<=maxLen by unfold maxLen;omega);have H8:=lh (show(0+l.length)*16<=140737488355328 by omega);clear hb;go_enter Tryz.func130,Tryz.ntmps130
  go_wp2_with ((at_builtin;refine wpList_app _ rfl _ _ _ rfl w.heap.size 24 iS _ 2 16 Tryz.underlying25 jS0 jS1 jS2 jS3 rfl om _ 0 0 [] rfl hown _ l.length c (flatS l) rfl HFL.out hcl h1 H63.out H8.out si ?_;intro A' c' w' hown' hg hat))
  go_ret
  simp only[List.nil_append,Nat.zero_add] at hown';have hE:Ext w w':=(Ext.alloc w (.cells #[] 24)).grown hg si;exact⟨A',c',by simp,hown',hE⟩
theorem addS_good {l:List Sp}{s:Sp}(h:∀t∈l,goodS t)(hs:goodS s):∀t∈addS l s,goodS t:=by
 rcases List.eq_nil_or_concat l with rfl|⟨l0,u,rfl⟩
 ·rw[addS_nil];simpa using hs
 ·rw[List.concat_eq_append] at *;rw[addS_snoc];intro t ht
  split at ht
  ·rcases List.mem_append.1 ht with ht|ht
   ·exact h t (by simp[ht])
   ·obtain rfl:=List.mem_singleton.1 ht;have:=h u si;unfold goodS at *
    simp only
    omega
  ·rcases List.mem_append.1 ht with ht|ht
   ·exact h t ht
   ·obtain rfl:=List.mem_singleton.1 ht;exact hs
theorem addAll_good:∀{b l:List Sp},(∀t∈l,goodS t)->(∀t∈b,goodS t)->∀t∈b.foldl addS l,goodS t
 | [],_,h,_=>h
 | s::b,_,h,hb=>addAll_good (b:=b) (addS_good h (hb s si)) (fun t ht=>hb t (by simp[ht]))
theorem addAll_len:∀(b l:List Sp),(b.foldl addS l).length<=l.length+b.length
 | [],l=>by simp
 | s::b,l=>by
  have h1:=addAll_len b (addS l s);have h2:=(addS_len l s).2;rw[List.foldl_cons,List.length_cons];omega
theorem flat_part {ls:List Hs}{i k:Nat}:(((ls.take i).map (·.l)).flatten++((ls[i]?.map (·.l)).getD []).take k).length<=((ls.map (·.l)).flatten).length:=by
 rcases Nat.lt_or_ge i ls.length with hi|hi
 ·rw[List.getElem?_eq_getElem hi];have e:ls=ls.take i++ls[i]::ls.drop (i+1):=by
   conv=>lhs;rw[<-List.take_append_drop i ls,List.drop_eq_getElem_cons hi]
  have e2:((ls.map (·.l)).flatten).length=((ls.take i).map (·.l)).flatten.length+(ls[i].l.length+((ls.drop (i+1)).map (·.l)).flatten.length):=by
   conv=>lhs;rw[e]
   rw[List.map_append,List.flatten_append,List.length_append,List.map_cons,List.flatten_cons,List.length_append]
  rw[List.length_append,e2];simp only[Option.map_some,Option.getD_some,List.length_take];omega
 ·rw[List.getElem?_eq_none hi,List.take_of_length_le hi]
  simp
theorem okL_canon {l:List Sp}(h:OkL l):Canon l/\∀s∈l,goodS s:=by
 have hg:∀i (hi:i<l.length),goodS l[i]:=fun i hi=>(h i hi hi).1;have hadj:∀i (hi:i+1<l.length),l[i].2+2<=l[i+1].1:=fun i hi=>by
  have:=(h (i+1) hi hi).2 om;simp only[Nat.add_sub_cancel] at this
  rwa [List.getD_eq_getElem?_getD,List.getElem?_eq_getElem om] at this
 have hall:∀d i (hi:i+d+1<l.length),l[i].2+2<=(l[i+d+1]'hi).1:=by
  intro d;induction d with
  | zero=>exact fun i hi=>hadj i hi
  | succ d ih=>
   intro i hi;have h1:=ih i om;have h2:=hg (i+d+1) om;have h3:=hadj (i+d+1) om;unfold goodS at h2;have e:i+(d+1)+1=i+d+1+1:=om;simp only[e];omega
 refine⟨⟨fun s hs=>?_,List.pairwise_iff_getElem.2 (fun i j hi hj hij=>?_)⟩,fun s hs=>?_⟩
 ·obtain⟨i,hi,rfl⟩:=List.getElem_of_mem hs;exact(hg i hi).2.1
 ·obtain⟨d,rfl⟩:∃d,j=i+d+1:=⟨j-i-1,om⟩;exact hall d i hj
 ·obtain⟨i,hi,rfl⟩:=List.getElem_of_mem hs;exact hg i hi
end
end Go.Proofs.YtmpcoifnpflapaaGreat
