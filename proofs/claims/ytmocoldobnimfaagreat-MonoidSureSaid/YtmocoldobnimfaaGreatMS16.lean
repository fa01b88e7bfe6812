/- Texts of this proof: Sort G10 G11 G13. -/
import Derived.Test.YtmocoldobnimfaaGreatMS15
import Derived.Shelf.SlSortCmp.WholeK
import Derived.Ground.SlsfProg
import Derived.Test.YtmocoldobnimfaaGreatProg
set_option linter.all false
namespace Go.Proofs
open Go.Shelf
def Tryz.sortEnd_ren:Go.Shelf.Ren:=⟨fun|6=>156|15=>159|14=>194|28=>203|29=>204|20=>216|21=>217|22=>218|23=>219|24=>220|25=>221|26=>222|27=>223|46=>230|47=>225|48=>226|49=>231|50=>232|57=>234|n=>n,fun|22=>201|24=>207|25=>267|3=>3|39=>270|0=>0|53=>302|55=>203|4=>4|46=>296|45=>295|50=>208|5=>5|9=>9|66=>316|70=>320|76=>324|77=>291|n=>n,fun|n=>n⟩
theorem Tryz.sortEnd:Go.Proofs.SlLaysF0.n6 Tryz.prog Tryz.sortEnd_ren:={
 mixed:=by kernel_rfl
 f6:=⟨Tryz.f156.name,by decide,Tryz.func156.trans (congrArg some (by kernel_rfl))⟩
 f14:=⟨Tryz.f194.name,by decide,Tryz.func194.trans (congrArg some (by kernel_rfl))⟩
 f15:=Tryz.func159.trans (congrArg some (by kernel_rfl))
 f20:=⟨Tryz.f216.name,by decide,Tryz.func216.trans (congrArg some (by kernel_rfl))⟩
 f21:=⟨Tryz.f217.name,by decide,Tryz.func217.trans (congrArg some (by kernel_rfl))⟩
 f22:=⟨Tryz.f218.name,by decide,Tryz.func218.trans (congrArg some (by kernel_rfl))⟩
 f23:=⟨Tryz.f219.name,by decide,Tryz.func219.trans (congrArg some (by kernel_rfl))⟩
 f24:=⟨Tryz.f220.name,by decide,Tryz.func220.trans (congrArg some (by kernel_rfl))⟩
 f25:=⟨Tryz.f221.name,by decide,Tryz.func221.trans (congrArg some (by kernel_rfl))⟩
 f26:=⟨Tryz.f222.name,by decide,Tryz.func222.trans (congrArg some (by kernel_rfl))⟩
 f27:=⟨Tryz.f223.name,by decide,Tryz.func223.trans (congrArg some (by kernel_rfl))⟩
 f28:=Tryz.func203.trans (congrArg some (by kernel_rfl))
 f29:=Tryz.func204.trans (congrArg some (by kernel_rfl))
 f46:=⟨Tryz.f230.name,by decide,Tryz.func230.trans (congrArg some (by kernel_rfl))⟩
 f47:=Tryz.func225.trans (congrArg some (by kernel_rfl))
 f48:=Tryz.func226.trans (congrArg some (by kernel_rfl))
 f49:=⟨Tryz.f231.name,by decide,Tryz.func231.trans (congrArg some (by kernel_rfl))⟩
 f50:=⟨Tryz.f232.name,by decide,Tryz.func232.trans (congrArg some (by kernel_rfl))⟩
 f57:=⟨Tryz.f234.name,by decide,Tryz.func234.trans (congrArg some (by kernel_rfl))⟩
 t0:=Tryz.underlying0
 a0:=Tryz.isAgg0
 z0:=Tryz.sizeOf0
 v0:=Tryz.zeroValue0
 t3:=Tryz.underlying3
 a3:=Tryz.isAgg3
 z3:=Tryz.sizeOf3
 v3:=Tryz.zeroValue3
 t4:=Tryz.underlying4
 a4:=Tryz.isAgg4
 z4:=Tryz.sizeOf4
 v4:=Tryz.zeroValue4
 t5:=Tryz.underlying5
 a5:=Tryz.isAgg5
 z5:=Tryz.sizeOf5
 v5:=Tryz.zeroValue5
 t9:=Tryz.underlying9
 a9:=Tryz.isAgg9
 z9:=Tryz.sizeOf9
 v9:=Tryz.zeroValue9
 t22:=Tryz.underlying201
 a22:=Tryz.isAgg201
 z22:=Tryz.sizeOf201
 v22:=Tryz.zeroValue201
 t25:=Tryz.underlying267
 a25:=Tryz.isAgg267
 z25:=Tryz.sizeOf267
 v25:=Tryz.zeroValue267
 t39:=Tryz.underlying270
 a39:=Tryz.isAgg270
 z39:=Tryz.sizeOf270
 v39:=Tryz.zeroValue270
 t45:=Tryz.underlying295
 a45:=Tryz.isAgg295
 z45:=Tryz.sizeOf295
 v45:=Tryz.zeroValue295
 t46:=Tryz.underlying296
 a46:=Tryz.isAgg296
 z46:=Tryz.sizeOf296
 v46:=Tryz.zeroValue296
 t50:=Tryz.underlying208
 a50:=Tryz.isAgg208
 z50:=Tryz.sizeOf208
 v50:=Tryz.zeroValue208
 t53:=Tryz.underlying302
 a53:=Tryz.isAgg302
 z53:=Tryz.sizeOf302
 v53:=Tryz.zeroValue302
 t55:=Tryz.underlying203
 a55:=Tryz.isAgg203
 z55:=Tryz.sizeOf203
 v55:=Tryz.zeroValue203
 t66:=Tryz.underlying316
 a66:=Tryz.isAgg316
 z66:=Tryz.sizeOf316
 v66:=Tryz.zeroValue316
 t70:=Tryz.underlying320
 a70:=Tryz.isAgg320
 z70:=Tryz.sizeOf320
 v70:=Tryz.zeroValue320
 t76:=Tryz.underlying324
 a76:=Tryz.isAgg324
 z76:=Tryz.sizeOf324
 v76:=Tryz.zeroValue324
 t77:=Tryz.underlying291
 a77:=Tryz.isAgg291
 z77:=Tryz.sizeOf291
 v77:=Tryz.zeroValue291 }
def Tryz.sortStretch_ren:Go.Shelf.Ren:=⟨fun|6=>117|15=>159|14=>158|28=>203|29=>204|20=>195|21=>196|22=>197|23=>198|24=>199|25=>200|26=>201|27=>202|46=>224|47=>225|48=>226|49=>227|50=>228|57=>233|n=>n,fun|22=>132|24=>211|25=>213|3=>3|39=>270|0=>0|53=>302|55=>203|4=>4|46=>296|45=>295|50=>208|5=>5|9=>9|66=>316|70=>320|76=>324|77=>291|n=>n,fun|n=>n⟩
theorem Tryz.sortStretch:Go.Proofs.SlLaysF0.n6 Tryz.prog Tryz.sortStretch_ren:={
 mixed:=by kernel_rfl
 f6:=⟨Tryz.f117.name,by decide,Tryz.func117.trans (congrArg some (by kernel_rfl))⟩
 f14:=⟨Tryz.f158.name,by decide,Tryz.func158.trans (congrArg some (by kernel_rfl))⟩
 f15:=Tryz.func159.trans (congrArg some (by kernel_rfl))
 f20:=⟨Tryz.f195.name,by decide,Tryz.func195.trans (congrArg some (by kernel_rfl))⟩
 f21:=⟨Tryz.f196.name,by decide,Tryz.func196.trans (congrArg some (by kernel_rfl))⟩
 f22:=⟨Tryz.f197.name,by decide,Tryz.func197.trans (congrArg some (by kernel_rfl))⟩
 f23:=⟨Tryz.f198.name,by decide,Tryz.func198.trans (congrArg some (by kernel_rfl))⟩
 f24:=⟨Tryz.f199.name,by decide,Tryz.func199.trans (congrArg some (by kernel_rfl))⟩
 f25:=⟨Tryz.f200.name,by decide,Tryz.func200.trans (congrArg some (by kernel_rfl))⟩
 f26:=⟨Tryz.f201.name,by decide,Tryz.func201.trans (congrArg some (by kernel_rfl))⟩
 f27:=⟨Tryz.f202.name,by decide,Tryz.func202.trans (congrArg some (by kernel_rfl))⟩
 f28:=Tryz.func203.trans (congrArg some (by kernel_rfl))
 f29:=Tryz.func204.trans (congrArg some (by kernel_rfl))
 f46:=⟨Tryz.f224.name,by decide,Tryz.func224.trans (congrArg some (by kernel_rfl))⟩
 f47:=Tryz.func225.trans (congrArg some (by kernel_rfl))
 f48:=Tryz.func226.trans (congrArg some (by kernel_rfl))
 f49:=⟨Tryz.f227.name,by decide,Tryz.func227.trans (congrArg some (by kernel_rfl))⟩
 f50:=⟨Tryz.f228.name,by decide,Tryz.func228.trans (congrArg some (by kernel_rfl))⟩
 f57:=⟨Tryz.f233.name,by decide,Tryz.func233.trans (congrArg some (by kernel_rfl))⟩
 t0:=Tryz.underlying0
 a0:=Tryz.isAgg0
 z0:=Tryz.sizeOf0
 v0:=Tryz.zeroValue0
 t3:=Tryz.underlying3
 a3:=Tryz.isAgg3
 z3:=Tryz.sizeOf3
 v3:=Tryz.zeroValue3
 t4:=Tryz.underlying4
 a4:=Tryz.isAgg4
 z4:=Tryz.sizeOf4
 v4:=Tryz.zeroValue4
 t5:=Tryz.underlying5
 a5:=Tryz.isAgg5
 z5:=Tryz.sizeOf5
 v5:=Tryz.zeroValue5
 t9:=Tryz.underlying9
 a9:=Tryz.isAgg9
 z9:=Tryz.sizeOf9
 v9:=Tryz.zeroValue9
 t22:=Tryz.underlying132
 a22:=Tryz.isAgg132
 z22:=Tryz.sizeOf132
 v22:=Tryz.zeroValue132
 t25:=Tryz.underlying213
 a25:=Tryz.isAgg213
 z25:=Tryz.sizeOf213
 v25:=Tryz.zeroValue213
 t39:=Tryz.underlying270
 a39:=Tryz.isAgg270
 z39:=Tryz.sizeOf270
 v39:=Tryz.zeroValue270
 t45:=Tryz.underlying295
 a45:=Tryz.isAgg295
 z45:=Tryz.sizeOf295
 v45:=Tryz.zeroValue295
 t46:=Tryz.underlying296
 a46:=Tryz.isAgg296
 z46:=Tryz.sizeOf296
 v46:=Tryz.zeroValue296
 t50:=Tryz.underlying208
 a50:=Tryz.isAgg208
 z50:=Tryz.sizeOf208
 v50:=Tryz.zeroValue208
 t53:=Tryz.underlying302
 a53:=Tryz.isAgg302
 z53:=Tryz.sizeOf302
 v53:=Tryz.zeroValue302
 t55:=Tryz.underlying203
 a55:=Tryz.isAgg203
 z55:=Tryz.sizeOf203
 v55:=Tryz.zeroValue203
 t66:=Tryz.underlying316
 a66:=Tryz.isAgg316
 z66:=Tryz.sizeOf316
 v66:=Tryz.zeroValue316
 t70:=Tryz.underlying320
 a70:=Tryz.isAgg320
 z70:=Tryz.sizeOf320
 v70:=Tryz.zeroValue320
 t76:=Tryz.underlying324
 a76:=Tryz.isAgg324
 z76:=Tryz.sizeOf324
 v76:=Tryz.zeroValue324
 t77:=Tryz.underlying291
 a77:=Tryz.isAgg291
 z77:=Tryz.sizeOf291
 v77:=Tryz.zeroValue291 }
end Go.Proofs
namespace Go.Proofs.YtmocoldobnimfaaGreat
section
open Go.RowKit
abbrev GS:={ s:Sp // QH s }
instance:Inhabited GS:=⟨⟨(0,0),by unfold QH;omega⟩⟩
theorem O0 {l:List Sp}{s:Sp}(h:∀t∈l,QH t)(hs:QH s):∀t∈QU l s,QH t:=by
 rcases List.eq_nil_or_concat l with rfl|⟨l0,u,rfl⟩
 ·rw[jw];simpa using hs
 ·rw[List.concat_eq_append] at *;rw[YB];intro t ht
  split at ht
  ·rcases List.mem_append.1 ht with ht|ht
   ·exact h t (by simp[ht])
   ·obtain rfl:=List.mem_singleton.1 ht;have:=h u si;unfold QH at *
    simp only
    omega
  ·rcases List.mem_append.1 ht with ht|ht
   ·exact h t ht
   ·obtain rfl:=List.mem_singleton.1 ht;exact hs
theorem xV:∀{b l:List Sp},(∀t∈l,QH t)->(∀t∈b,QH t)->∀t∈b.foldl QU l,QH t
 | [],_,h,_=>h
 | s::b,_,h,hb=>xV (b:=b) (O0 h (hb s si)) (fun t ht=>hb t (by simp[ht]))
theorem Aq:∀(b l:List Sp),(b.foldl QU l).length<=l.length+b.length
 | [],l=>by simp
 | s::b,l=>by
  have h1:=Aq b (QU l s);have h2:=(jy l s).2;rw[List.foldl_cons,List.length_cons];omega
theorem O1 {ls:List Hs}{i k:Nat}:(((ls.take i).map (·.l)).flatten++((ls[i]?.map (·.l)).getD []).take k).length<=((ls.map (·.l)).flatten).length:=by
 rcases Nat.lt_or_ge i ls.length with hi|hi
 ·rw[List.getElem?_eq_getElem hi];have e:ls=ls.take i++ls[i]::ls.drop (i+1):=by
   conv=>lhs;rw[<-List.take_append_drop i ls,List.drop_eq_getElem_cons hi]
  have e2:((ls.map (·.l)).flatten).length=((ls.take i).map (·.l)).flatten.length+(ls[i].l.length+((ls.drop (i+1)).map (·.l)).flatten.length):=by
   conv=>lhs;rw[e]
   rw[List.map_append,List.flatten_append,List.length_append,List.map_cons,List.flatten_cons,List.length_append]
  rw[List.length_append,e2];simp only[Option.map_some,Option.getD_some,List.length_take];omega
 ·rw[List.getElem?_eq_none hi,List.take_of_length_le hi]
  simp
theorem KH {l:List Sp}(h:OkL l):Kk l/\∀s∈l,QH s:=by
 have hg:∀i (hi:i<l.length),QH l[i]:=fun i hi=>(h i hi hi).1;have hadj:∀i (hi:i+1<l.length),l[i].2+2<=l[i+1].1:=fun i hi=>by
  have:=(h (i+1) hi hi).2 om;simp only[Nat.add_sub_cancel] at this
  rwa [List.getD_eq_getElem?_getD,List.getElem?_eq_getElem om] at this
 have hall:∀d i (hi:i+d+1<l.length),l[i].2+2<=(l[i+d+1]'hi).1:=by
  intro d;induction d with
  | zero=>exact fun i hi=>hadj i hi
  | succ d ih=>
   intro i hi;have h1:=ih i om;have h2:=hg (i+d+1) om;have h3:=hadj (i+d+1) om;unfold QH at h2;have e:i+(d+1)+1=i+d+1+1:=om;simp only[e];omega
 refine⟨⟨fun s hs=>?_,List.pairwise_iff_getElem.2 (fun i j hi hj hij=>?_)⟩,fun s hs=>?_⟩
 ·obtain⟨i,hi,rfl⟩:=List.getElem_of_mem hs;exact(hg i hi).2.1
 ·obtain⟨d,rfl⟩:∃d,j=i+d+1:=⟨j-i-1,om⟩;exact hall d i hj
 ·obtain⟨i,hi,rfl⟩:=List.getElem_of_mem hs;exact hg i hi
end
