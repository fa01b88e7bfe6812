/- Texts of this proof: J10g J12g J16g J14g C0g. -/
import Derived.Test.YtmgpefenkilffaaGreatSW22
set_option linter.all false
set_option maxRecDepth 100000
set_option maxHeartbeats 16000000
namespace Go.Proofs.YtmgpefenkilffaaGreat
section
open Go.RowKit
attribute [local go_sem ↓] Go.wp_at_zero Go.wp_at_succ
theorem sum_take {α:Type}(f:α->Nat):∀(l:List α) (i:Nat),((l.take i).map f).sum<=(l.map f).sum
 | [],_=>by simp
 | a::l,0=>by simp
 | a::l,i+1=>by have:=sum_take f l i;simp only[List.take_succ_cons,List.map_cons,List.sum_cons];omega
theorem sum_succ {α:Type}(f:α->Nat)(l:List α){i:Nat}(hi:i<l.length):((l.take (i+1)).map f).sum=((l.take i).map f).sum+f l[i]:=by
 rw[List.take_succ_eq_append_getElem hi,List.map_append,List.sum_append];simp
def RetDp (d:Nat)(w:World)(e:Ending)(w':World):Prop:=∃x:Int,e=.returned (.int .i64 x)/\0<=x/\x<=d/\Ext w w'
theorem ysize_G (bd:Nat)(S:Nat->Prop):∀(d:Nat) (w:World) (v:Value) (T:Tm),TreeG bd S w d v T->cnt T<=1000000->Calls Tryz.prog 181 #[v] w (RetV (.int .i64 (cnt T)) w):=by
 intro d;induction d with
 | zero=>intro w v T h;obtain⟨e,he⟩:=h.pos;omega
 | succ d ih=>
  intro w v T h hcn;obtain⟨n,rfl,hok,hsl,hkl,hkc,hcl,_,htl,hks⟩:=h.node;have HTL:=lh htl;have HCN:=lh hcn;have HCE:=lh (cnt_eq T);clear htl hcn;obtain⟨op,A,c,l,K,kc,ks,mn,mx,md,nn,neg⟩:=n
  simp only at hsl hkl hkc hcl hks
  unfold Nd.val
  simp only
  have HIH:=lh ih;clear ih h hok;have B0:=Blk.new w 61 #[.int .i64 op,.slice A l.length c,.slice K ks.length kc,.int .i64 mn,.int .i64 mx,.int .i64 md,.int .i64 nn,.bool neg];have E0:=Ext.alloc w (.cells #[.int .i64 op,.slice A l.length c,.slice K ks.length kc,.int .i64 mn,.int .i64 mx,.int .i64 md,.int .i64 nn,.bool neg] 61);have HC:=lh (hcl.ext E0);have HK:=lh (fun i hi hj=>(hks i hi hj).ext E0);have HKL:ks.length<=kc/\kc<=9223372036854775807:=⟨hkl,by unfold maxLen at hkc;omega⟩;clear hcl hks hsl hkl hkc;go_enter Tryz.func181,Tryz.ntmps181
  go_upto_region 1 with fail
  obtain⟨gx,hgx⟩:∃gx,gx=w.heap.size:=⟨_,rfl⟩
  rw[<-hgx] at B0 ⊢;clear hgx;generalize w.alloc (.cells #[.int .i64 op,.slice A l.length c,.slice K ks.length kc,.int .i64 mn,.int .i64 mx,.int .i64 md,.int .i64 nn,.bool neg] 61)=wa at *;have z2:wa.cell? ⟨gx,2,none⟩=some (.slice K ks.length kc):=B0.cell 2
  go_upto_region 3 with fail
  go_loopw [3,4] (fun v3 v wr=>∃(s i:Nat),v3=.int .i64 s/\v=.int .i64 i/\i<=ks.length/\Hid (s=1+((T.kids.take i).map cnt).sum)/\Ext wa wr) (fun _ v _=>ks.length-(intOf v).toNat)
  case atStart=>exact⟨1,0,rfl,rfl,om,lh si,Ext.rfl' _⟩
  case round=>
   obtain⟨s,i,rfl,rfl,hi,HS,x1⟩:=hrel;have z2r:=x1.cell z2;by_cases hlt:i<ks.length
   ·have hiI:(i:Int)<ks.length:=om;obtain⟨b,o,hK,n,ht,k0,k1,k2,k3,k4,k5,k6,k7⟩:=kid8G (HC.out.ext x1) HTL.out (fun i hi hj=>(HK.out i hi hj).ext x1) hlt;have hK':=hK;subst hK';have HT:=lh ht;clear ht;have hpre:=sum_take cnt T.kids (i+1);have htk:=sum_succ cnt T.kids (HTL.out▸hlt);have hce:=HCE.out;have hcn:=HCN.out;have hs:=HS.out;have HKC:=lh (HIH.out wr _ _ HT.out om);obtain⟨q,hq⟩:∃q,q=cnt (T.kids[i]'(HTL.out▸hlt)):=⟨_,rfl⟩
    rw[<-hq] at HKC htk;have HS2:Hid (s+q=1+((T.kids.take (i+1)).map cnt).sum):=lh om;have hw:IntKind.i64.wrap ((s:Int)+(q:Int))=((s+q:Nat):Int):=wj;clear hpre htk hce hcn hs hq
    go_wp2_with (go_at_call 181;refine HKC.out.mono ?_;rintro e w3 ⟨rfl,x3⟩)
    go_roundw
    case rel=>exact⟨s+q,i+1,by first|rfl|(push_cast;rfl),by go_num,om,HS2,x1.trans x3⟩
    case measure=>simp[intOf];omega
   ·have hiI:¬(i:Int)<ks.length:=om
    go_wp2_with fail
    go_ret
    exact⟨by
     have h:=HS.out;rw[List.take_of_length_le (by have:=HTL.out;omega)] at h;exact congrArg (fun n:Nat=>Ending.returned (.int .i64 (n:Int))) (h.trans HCE.out.symm),E0.trans x1⟩
theorem ydepth_G (bd:Nat)(S:Nat->Prop):∀(d:Nat) (w:World) (v:Value),d<=1000->TreeAt bd S w d v->Calls Tryz.prog 182 #[v] w (RetDp d w):=by
 intro d;induction d with
 | zero=>intro w v hd h;obtain⟨e,he⟩:=h.pos;omega
 | succ d ih=>
  intro w v hd h;obtain⟨n,rfl,hok,hsl,hkl,hkc,hcl,hks⟩:=h.node;obtain⟨op,A,c,l,K,kc,ks,mn,mx,md,nn,neg⟩:=n
  simp only at hsl hkl hkc hcl hks
  unfold Nd.val
  simp only
  have HIH:=lh ih;clear ih h hok;have B0:=Blk.new w 61 #[.int .i64 op,.slice A l.length c,.slice K ks.length kc,.int .i64 mn,.int .i64 mx,.int .i64 md,.int .i64 nn,.bool neg];have E0:=Ext.alloc w (.cells #[.int .i64 op,.slice A l.length c,.slice K ks.length kc,.int .i64 mn,.int .i64 mx,.int .i64 md,.int .i64 nn,.bool neg] 61);have HC:=lh (hcl.ext E0);have HK:=lh (fun u hu=>(hks u hu).ext E0);have HKL:ks.length<=kc/\kc<=9223372036854775807:=⟨hkl,by unfold maxLen at hkc;omega⟩;clear hcl hks hsl hkl hkc;go_enter Tryz.func182,Tryz.ntmps182
  go_upto_region 1 with fail
  obtain⟨gx,hgx⟩:∃gx,gx=w.heap.size:=⟨_,rfl⟩
  rw[<-hgx] at B0 ⊢;clear hgx;generalize w.alloc (.cells #[.int .i64 op,.slice A l.length c,.slice K ks.length kc,.int .i64 mn,.int .i64 mx,.int .i64 md,.int .i64 nn,.bool neg] 61)=wa at *;have z2:wa.cell? ⟨gx,2,none⟩=some (.slice K ks.length kc):=B0.cell 2
  go_upto_region 3 with fail
  go_loopw [3,4] (fun v3 v wr=>∃(x:Int) (i:Nat),v3=.int .i64 x/\v=.int .i64 i/\i<=ks.length/\Hid (0<=x/\x<=d)/\Ext wa wr) (fun _ v _=>ks.length-(intOf v).toNat)
  case atStart=>exact⟨0,0,rfl,rfl,om,lh om,Ext.rfl' _⟩
  case round=>
   obtain⟨x,i,rfl,rfl,hi,HX,x1⟩:=hrel;have z2r:=x1.cell z2;by_cases hlt:i<ks.length
   ·have hiI:(i:Int)<ks.length:=om;obtain⟨b,o,hK,n,ht,k0,k1,k2,k3,k4,k5,k6,k7⟩:=kid8 (HC.out.ext x1) (fun u hu=>(HK.out u hu).ext x1) hlt;have hK':=hK;subst hK';have HT:=lh ht;clear ht
    go_wp2_with (go_at_call 182;refine(HIH.out wr _ om HT.out).mono ?_;rintro e w3 ⟨b3,rfl,hb0,hb1,x3⟩;have HB3:=lh (And.intro hb0 hb1);clear hb0 hb1;rcases Int.le_total b3 x with hbx|hbx)
    all_goals
     go_roundw
     case rel=>exact⟨_,i+1,rfl,by go_num,om,lh (by have:=HX.out;have:=HB3.out;omega),x1.trans x3⟩
     case measure=>simp[intOf];omega
   ·have hiI:¬(i:Int)<ks.length:=om;have hw:IntKind.i64.wrap (x+1)=x+1:=by rw[IntKind.wrap_i64];have:=HX.out;omega
    go_wp2_with fail
    go_ret
    exact⟨_,rfl,by have:=HX.out;omega,by have:=HX.out;push_cast;omega,E0.trans x1⟩
def SetV (l:List Sp)(top:Int):Prop:=l.length<=64/\∀i (hi:i<l.length),0<=l[i].1/\l[i].1<=l[i].2/\l[i].2<=top/\∀(_:0<i),l[i-1].2+1<l[i].1
theorem setV8 {l:List Sp}(h:l∈sets8):SetV l 255:=by
 simp only[sets8,List.mem_cons,List.not_mem_nil,or_false] at h;rcases h with rfl|rfl|rfl|rfl|rfl|rfl|rfl|rfl
 all_goals
  refine⟨by simp,fun i hi=>?_⟩;simp only[List.length_cons,List.length_nil] at hi
 all_goals
  rcases i with _|_|i
 all_goals first
  | (simp;done)
  | (exact absurd hi om)
theorem yspans_ok (A:Option Addr)(c:Nat)(l:List Sp)(top:Int)(w:World)(hl:SL w A c l)(hv:SetV l top)(htop:top<=1114111):Calls Tryz.prog 300 #[.slice A l.length c,.int .i64 top] w (RetV (.bool true) w):=by
 have hlen:=hl.len;have HV:=lh hv.2;have h64I:¬(64:Int)<l.length:=by have:=hv.1;omega
 clear hv;go_enter Tryz.func300,Tryz.ntmps300
 go_upto_region 4 with fail
 go_loopw [5] (fun v wr=>∃i:Nat,v=.int .i64 i/\i<=l.length/\Ext w wr) (fun v _=>l.length-(intOf v).toNat)
 case atStart=>exact⟨0,rfl,om,Ext.rfl' _⟩
 case round=>
  obtain⟨i,rfl,hi,x1⟩:=hrel;by_cases hlt:i<l.length
  ·have hI:(i:Int)<l.length:=om;obtain⟨b,o,hA,g1,g2⟩:=(hl.ext x1).get hlt;have hA':=hA;subst hA';by_cases h0:0<i
   ·obtain⟨b2,o2,hA2,g4,g3⟩:=(hl.ext x1).get (show i-1<l.length by omega);obtain⟨rfl,rfl⟩:b=b2/\o=o2:=by injection hA2 with h1;injection h1 with h2 h3 h4;exact⟨h2,h3⟩
    obtain⟨v1,v2,v3,v4⟩:=HV.out i hlt;have v5:=v4 h0;obtain⟨u1,u2,u3,_⟩:=HV.out (i-1) om;clear v4;obtain⟨k,rfl⟩:∃k,i=k+1:=⟨i-1,om⟩;simp only[Nat.add_sub_cancel] at g3 v5 u1 u2 u3;generalize l[k+1]=s at *;generalize l[k]=p at *;obtain⟨lo,hi2⟩:=s;obtain⟨plo,phi⟩:=p
    simp only at g1 g2 g3 v1 v2 v3 v5 u1 u2 u3
    clear g4 hA2 hA;have hki:(0:Int)<(k:Int)+1:=om;have hwk2:IntKind.i64.wrap (k:Int)=(k:Int):=wj;have hk0:(0:Int)<=(k:Int)+1:=om;have hk1:(k:Int)+1<(l.length:Int):=om;have hk2:(k:Int)<(l.length:Int):=om;have hto:((k:Int)+1).toNat=k+1:=om;have hwk:IntKind.i64.wrap ((k:Int)+1-1)=(k:Int):=wj;have c1:¬lo<0:=om;have c2:¬hi2<lo:=om;have c3:¬top<hi2:=om;have c5:¬lo<=IntKind.i64.wrap (phi+1):=wj;clear v1 v2 v3 v5 u1 u2 u3
    go_upto_region 6 with fail
    have k1:=kc0 g1;have k2:=kc0 g2;have k3:=kc0 g3;refine Xr.start [] kr ?_;refine Xtk 0 ?_
    iterate 6(refine Xtn ?_)
    iterate 11(first|refine Xtn ?_|refine Xsn ?_)
    iterate 2(refine Xtn ?_)
    iterate 7(first|refine Xtn ?_|refine Xsn ?_)
    iterate 2(refine Xtn ?_)
    iterate 17(first|refine Xtn ?_|refine Xsn ?_)
    refine Xtn ?_;refine Xdn fun w2 hE2 hK2=>?_;have x3:=x1.trans hK2.nil;clear k1 k2 k3 g1 g2 g3 hE2 hK2
    go_wp2_with fail
    go_roundw
    case rel=>exact⟨k+1+1,by go_num,om,x3⟩
    case measure=>simp[intOf];omega
   ·obtain rfl:i=0:=om;obtain⟨v1,v2,v3,_⟩:=HV.out 0 hlt;generalize l[0]=s at *;obtain⟨lo,hi2⟩:=s;simp only[Nat.zero_mul,Nat.add_zero] at g1 g2 v1 v2 v3;have c1:¬lo<0:=om;have c2:¬hi2<lo:=om;have c3:¬top<hi2:=om;clear v1 v2 v3
    go_upto_region 6 with fail
    have k1:=kc0 g1;have k2:=kc0 g2;refine Xr.start [] kr ?_;refine Xtk 0 ?_
    iterate 6(refine Xtn ?_)
    iterate 11(first|refine Xtn ?_|refine Xsn ?_)
    iterate 2(refine Xtn ?_)
    iterate 7(first|refine Xtn ?_|refine Xsn ?_)
    iterate 2(refine Xtn ?_)
    iterate 17(first|refine Xtn ?_|refine Xsn ?_)
    refine Xtn ?_;refine Xdn fun w2 hE2 hK2=>?_;have x3:=x1.trans hK2.nil;clear k1 k2 g1 g2 hE2 hK2
    go_wp2_with fail
    go_roundw
    case rel=>exact⟨1,by go_num,om,x3⟩
    case measure=>simp[intOf];omega
  ·have hI:¬(i:Int)<l.length:=om
   go_wp2_with fail
   go_ret
   exact⟨rfl,x1⟩
theorem ykidsN_G (op lo hi:Int)(w:World)(h:(op=0/\lo=0/\hi=0)\/(op=1/\lo=0/\hi=0)\/(op=2/\lo=2/\hi = -1)\/(op=3/\lo=2/\hi = -1)\/(op=4/\lo=1/\hi=1)\/(op=5/\lo=1/\hi=1)\/(op=11/\lo=0/\hi=0)):Calls Tryz.prog 299 #[.int .i64 op] w (RetV (.tuple #[.int .i64 lo,.int .i64 hi]) w):=by
 go_enter Tryz.func299,Tryz.ntmps299;rcases h with⟨rfl,rfl,rfl⟩|⟨rfl,rfl,rfl⟩|⟨rfl,rfl,rfl⟩|⟨rfl,rfl,rfl⟩|⟨rfl,rfl,rfl⟩|⟨rfl,rfl,rfl⟩|⟨rfl,rfl,rfl⟩
 all_goals
  go_wp2_with fail
  go_ret2
  exact⟨rfl,Ext.rfl' _⟩
theorem yfm0 (A K:Option Addr)(c kc:Nat)(p:Int)  (w:World)(hc:c<=9223372036854775807):Calls Tryz.prog 245 #[.agg #[.int .i64 0,.slice A 0 c,.slice K 0 kc,.int .i64 0,.int .i64 0,.int .i64 0,.int .i64 0,.bool false],.int .i64 p,.int .i64 255] w (RetV (.bool true) w):=by
 have B0:=Blk.new w 61 #[.int .i64 0,.slice A 0 c,.slice K 0 kc,.int .i64 0,.int .i64 0,.int .i64 0,.int .i64 0,.bool false];have E0:=Ext.alloc w (.cells #[.int .i64 0,.slice A 0 c,.slice K 0 kc,.int .i64 0,.int .i64 0,.int .i64 0,.int .i64 0,.bool false] 61);have HKN:=fun(w':World)=>lh (ykidsN_G 0 (0) (0) w' si);go_enter Tryz.func245,Tryz.ntmps245
 go_upto_region 1 with fail
 obtain⟨gx,hgx⟩:∃gx,gx=w.heap.size:=⟨_,rfl⟩
 rw[<-hgx] at B0 ⊢;clear hgx;generalize w.alloc (.cells #[.int .i64 0,.slice A 0 c,.slice K 0 kc,.int .i64 0,.int .i64 0,.int .i64 0,.int .i64 0,.bool false] 61)=wa at *;have z0:wa.cell? ⟨gx,0,none⟩=some (.int .i64 0):=B0.cell 0
 go_upto_region 2 with(go_at_call 299;refine(HKN _).out.mono ?_;rintro e wb ⟨rfl,xb⟩)
 have Bb:=B0.ext xb;obtain⟨y0,y1,y2,y3,y4,y5,y6,y7⟩:wb.cell? ⟨gx,0,none⟩=some (.int .i64 0)/\wb.cell? ⟨gx,1,none⟩=some (.slice A 0 c)/\wb.cell? ⟨gx,2,none⟩=some (.slice K 0 kc)/\wb.cell? ⟨gx,3,none⟩=some (.int .i64 0)/\wb.cell? ⟨gx,4,none⟩=some (.int .i64 0)/\wb.cell? ⟨gx,5,none⟩=some (.int .i64 0)/\wb.cell? ⟨gx,6,none⟩=some (.int .i64 0)/\wb.cell? ⟨gx,7,none⟩=some (.bool false):=⟨Bb.cell 0,Bb.cell 1,Bb.cell 2,Bb.cell 3,Bb.cell 4,Bb.cell 5,Bb.cell 6,Bb.cell 7⟩;clear z0 B0;have X0:=E0.trans xb
 go_wp2_with fail
 go_ret
 exact⟨rfl,X0⟩
theorem yfm1 (A K:Option Addr)(c kc:Nat)(p:Int)  (w:World)(l:List Sp)(hsl:SL w A c l)(hv:SetV l 255):Calls Tryz.prog 245 #[.agg #[.int .i64 1,.slice A l.length c,.slice K 0 kc,.int .i64 0,.int .i64 0,.int .i64 0,.int .i64 0,.bool false],.int .i64 p,.int .i64 255] w (RetV (.bool true) w):=by
 have hll:=hsl.len;have B0:=Blk.new w 61 #[.int .i64 1,.slice A l.length c,.slice K 0 kc,.int .i64 0,.int .i64 0,.int .i64 0,.int .i64 0,.bool false];have E0:=Ext.alloc w (.cells #[.int .i64 1,.slice A l.length c,.slice K 0 kc,.int .i64 0,.int .i64 0,.int .i64 0,.int .i64 0,.bool false] 61);have HSP:=fun(w':World) (x:Ext w w')=>lh (yspans_ok A c l 255 w' (hsl.ext x) hv om);have HKN:=fun(w':World)=>lh (ykidsN_G 1 (0) (0) w' si);clear hsl;go_enter Tryz.func245,Tryz.ntmps245
 go_upto_region 1 with fail
 obtain⟨gx,hgx⟩:∃gx,gx=w.heap.size:=⟨_,rfl⟩
 rw[<-hgx] at B0 ⊢;clear hgx;generalize w.alloc (.cells #[.int .i64 1,.slice A l.length c,.slice K 0 kc,.int .i64 0,.int .i64 0,.int .i64 0,.int .i64 0,.bool false] 61)=wa at *;have z0:wa.cell? ⟨gx,0,none⟩=some (.int .i64 1):=B0.cell 0
 go_upto_region 2 with(go_at_call 299;refine(HKN _).out.mono ?_;rintro e wb ⟨rfl,xb⟩)
 have Bb:=B0.ext xb;obtain⟨y0,y1,y2,y3,y4,y5,y6,y7⟩:wb.cell? ⟨gx,0,none⟩=some (.int .i64 1)/\wb.cell? ⟨gx,1,none⟩=some (.slice A l.length c)/\wb.cell? ⟨gx,2,none⟩=some (.slice K 0 kc)/\wb.cell? ⟨gx,3,none⟩=some (.int .i64 0)/\wb.cell? ⟨gx,4,none⟩=some (.int .i64 0)/\wb.cell? ⟨gx,5,none⟩=some (.int .i64 0)/\wb.cell? ⟨gx,6,none⟩=some (.int .i64 0)/\wb.cell? ⟨gx,7,none⟩=some (.bool false):=⟨Bb.cell 0,Bb.cell 1,Bb.cell 2,Bb.cell 3,Bb.cell 4,Bb.cell 5,Bb.cell 6,Bb.cell 7⟩;clear z0 B0;have X0:=E0.trans xb
 go_wp2_with (go_at_call 300;refine(HSP wb X0).out.mono ?_;rintro e ws ⟨rfl,xs⟩;have Bs:=Bb.ext xs;obtain⟨u0,u1,u2,u3,u4,u5,u6,u7⟩:ws.cell? ⟨gx,0,none⟩=some (.int .i64 1)/\ws.cell? ⟨gx,1,none⟩=some (.slice A l.length c)/\ws.cell? ⟨gx,2,none⟩=some (.slice K 0 kc)/\ws.cell? ⟨gx,3,none⟩=some (.int .i64 0)/\ws.cell? ⟨gx,4,none⟩=some (.int .i64 0)/\ws.cell? ⟨gx,5,none⟩=some (.int .i64 0)/\ws.cell? ⟨gx,6,none⟩=some (.int .i64 0)/\ws.cell? ⟨gx,7,none⟩=some (.bool false):=⟨Bs.cell 0,Bs.cell 1,Bs.cell 2,Bs.cell 3,Bs.cell 4,Bs.cell 5,Bs.cell 6,Bs.cell 7⟩;have X1:=X0.trans xs)
 go_ret
 exact⟨rfl,X1⟩
theorem yfm2 (A K:Option Addr)(c kc:Nat)(p:Int)(nk:Nat)(hk:nk<=kc/\kc<=9223372036854775807)(h2:2<=nk)(w:World)(hc:c<=9223372036854775807):Calls Tryz.prog 245 #[.agg #[.int .i64 2,.slice A 0 c,.slice K nk kc,.int .i64 0,.int .i64 0,.int .i64 0,.int .i64 0,.bool false],.int .i64 p,.int .i64 255] w (RetV (.bool true) w):=by
 have B0:=Blk.new w 61 #[.int .i64 2,.slice A 0 c,.slice K nk kc,.int .i64 0,.int .i64 0,.int .i64 0,.int .i64 0,.bool false];have E0:=Ext.alloc w (.cells #[.int .i64 2,.slice A 0 c,.slice K nk kc,.int .i64 0,.int .i64 0,.int .i64 0,.int .i64 0,.bool false] 61);have HKN:=fun(w':World)=>lh (ykidsN_G 2 (2) (-1) w' si);go_enter Tryz.func245,Tryz.ntmps245
 go_upto_region 1 with fail
 obtain⟨gx,hgx⟩:∃gx,gx=w.heap.size:=⟨_,rfl⟩
 rw[<-hgx] at B0 ⊢;clear hgx;generalize w.alloc (.cells #[.int .i64 2,.slice A 0 c,.slice K nk kc,.int .i64 0,.int .i64 0,.int .i64 0,.int .i64 0,.bool false] 61)=wa at *;have z0:wa.cell? ⟨gx,0,none⟩=some (.int .i64 2):=B0.cell 0
 go_upto_region 2 with(go_at_call 299;refine(HKN _).out.mono ?_;rintro e wb ⟨rfl,xb⟩)
 have Bb:=B0.ext xb;obtain⟨y0,y1,y2,y3,y4,y5,y6,y7⟩:wb.cell? ⟨gx,0,none⟩=some (.int .i64 2)/\wb.cell? ⟨gx,1,none⟩=some (.slice A 0 c)/\wb.cell? ⟨gx,2,none⟩=some (.slice K nk kc)/\wb.cell? ⟨gx,3,none⟩=some (.int .i64 0)/\wb.cell? ⟨gx,4,none⟩=some (.int .i64 0)/\wb.cell? ⟨gx,5,none⟩=some (.int .i64 0)/\wb.cell? ⟨gx,6,none⟩=some (.int .i64 0)/\wb.cell? ⟨gx,7,none⟩=some (.bool false):=⟨Bb.cell 0,Bb.cell 1,Bb.cell 2,Bb.cell 3,Bb.cell 4,Bb.cell 5,Bb.cell 6,Bb.cell 7⟩;clear z0 B0;have X0:=E0.trans xb;have h2I:¬((nk:Nat):Int)<2:=om
 go_wp2_with fail
 go_ret
 exact⟨rfl,X0⟩
theorem yfm3 (A K:Option Addr)(c kc:Nat)(p:Int)(nk:Nat)(hk:nk<=kc/\kc<=9223372036854775807)(h2:2<=nk)(w:World)(hc:c<=9223372036854775807):Calls Tryz.prog 245 #[.agg #[.int .i64 3,.slice A 0 c,.slice K nk kc,.int .i64 0,.int .i64 0,.int .i64 0,.int .i64 0,.bool false],.int .i64 p,.int .i64 255] w (RetV (.bool true) w):=by
 have B0:=Blk.new w 61 #[.int .i64 3,.slice A 0 c,.slice K nk kc,.int .i64 0,.int .i64 0,.int .i64 0,.int .i64 0,.bool false];have E0:=Ext.alloc w (.cells #[.int .i64 3,.slice A 0 c,.slice K nk kc,.int .i64 0,.int .i64 0,.int .i64 0,.int .i64 0,.bool false] 61);have HKN:=fun(w':World)=>lh (ykidsN_G 3 (2) (-1) w' si);go_enter Tryz.func245,Tryz.ntmps245
 go_upto_region 1 with fail
 obtain⟨gx,hgx⟩:∃gx,gx=w.heap.size:=⟨_,rfl⟩
 rw[<-hgx] at B0 ⊢;clear hgx;generalize w.alloc (.cells #[.int .i64 3,.slice A 0 c,.slice K nk kc,.int .i64 0,.int .i64 0,.int .i64 0,.int .i64 0,.bool false] 61)=wa at *;have z0:wa.cell? ⟨gx,0,none⟩=some (.int .i64 3):=B0.cell 0
 go_upto_region 2 with(go_at_call 299;refine(HKN _).out.mono ?_;rintro e wb ⟨rfl,xb⟩)
 have Bb:=B0.ext xb;obtain⟨y0,y1,y2,y3,y4,y5,y6,y7⟩:wb.cell? ⟨gx,0,none⟩=some (.int .i64 3)/\wb.cell? ⟨gx,1,none⟩=some (.slice A 0 c)/\wb.cell? ⟨gx,2,none⟩=some (.slice K nk kc)/\wb.cell? ⟨gx,3,none⟩=some (.int .i64 0)/\wb.cell? ⟨gx,4,none⟩=some (.int .i64 0)/\wb.cell? ⟨gx,5,none⟩=some (.int .i64 0)/\wb.cell? ⟨gx,6,none⟩=some (.int .i64 0)/\wb.cell? ⟨gx,7,none⟩=some (.bool false):=⟨Bb.cell 0,Bb.cell 1,Bb.cell 2,Bb.cell 3,Bb.cell 4,Bb.cell 5,Bb.cell 6,Bb.cell 7⟩;clear z0 B0;have X0:=E0.trans xb;have h2I:¬((nk:Nat):Int)<2:=om
 go_wp2_with fail
 go_ret
 exact⟨rfl,X0⟩
theorem yfm4 (A K:Option Addr)(c kc:Nat)(p:Int)(mn mx md:Int)(hk:1<=kc/\kc<=9223372036854775807)(hm:0<=mn/\mn<=2/\(mx = -1\/(1<=mx/\mx<=3/\mn<=mx)))(hd:md=0\/md=1)(w:World)(hc:c<=9223372036854775807):Calls Tryz.prog 245 #[.agg #[.int .i64 4,.slice A 0 c,.slice K 1 kc,.int .i64 mn,.int .i64 mx,.int .i64 md,.int .i64 0,.bool false],.int .i64 p,.int .i64 255] w (RetV (.bool true) w):=by
 have B0:=Blk.new w 61 #[.int .i64 4,.slice A 0 c,.slice K 1 kc,.int .i64 mn,.int .i64 mx,.int .i64 md,.int .i64 0,.bool false];have E0:=Ext.alloc w (.cells #[.int .i64 4,.slice A 0 c,.slice K 1 kc,.int .i64 mn,.int .i64 mx,.int .i64 md,.int .i64 0,.bool false] 61);have HKN:=fun(w':World)=>lh (ykidsN_G 4 (1) (1) w' si);go_enter Tryz.func245,Tryz.ntmps245
 go_upto_region 1 with fail
 obtain⟨gx,hgx⟩:∃gx,gx=w.heap.size:=⟨_,rfl⟩
 rw[<-hgx] at B0 ⊢;clear hgx;generalize w.alloc (.cells #[.int .i64 4,.slice A 0 c,.slice K 1 kc,.int .i64 mn,.int .i64 mx,.int .i64 md,.int .i64 0,.bool false] 61)=wa at *;have z0:wa.cell? ⟨gx,0,none⟩=some (.int .i64 4):=B0.cell 0
 go_upto_region 2 with(go_at_call 299;refine(HKN _).out.mono ?_;rintro e wb ⟨rfl,xb⟩)
 have Bb:=B0.ext xb;obtain⟨y0,y1,y2,y3,y4,y5,y6,y7⟩:wb.cell? ⟨gx,0,none⟩=some (.int .i64 4)/\wb.cell? ⟨gx,1,none⟩=some (.slice A 0 c)/\wb.cell? ⟨gx,2,none⟩=some (.slice K 1 kc)/\wb.cell? ⟨gx,3,none⟩=some (.int .i64 mn)/\wb.cell? ⟨gx,4,none⟩=some (.int .i64 mx)/\wb.cell? ⟨gx,5,none⟩=some (.int .i64 md)/\wb.cell? ⟨gx,6,none⟩=some (.int .i64 0)/\wb.cell? ⟨gx,7,none⟩=some (.bool false):=⟨Bb.cell 0,Bb.cell 1,Bb.cell 2,Bb.cell 3,Bb.cell 4,Bb.cell 5,Bb.cell 6,Bb.cell 7⟩;clear z0 B0;have X0:=E0.trans xb;have a1:¬mn<0:=om;have a2:¬32<mn:=om;have a3:¬mx < -1:=om;have a4:(mx == 0)=false:=by simp;omega
 have a5:¬32<mx:=om;have a6:¬md<0:=om;have a7:¬2<md:=om;by_cases a8:0<mx
 ·have a9:¬mx<mn:=om;clear hm hd
  go_wp2_with fail
  go_ret
  exact⟨rfl,X0⟩
 clear hm hd
 go_wp2_with fail
 go_ret
 exact⟨rfl,X0⟩
theorem yfm5 (A K:Option Addr)(c kc:Nat)(p:Int)(nn:Int)(hk:1<=kc/\kc<=9223372036854775807)(hn:1<=nn/\nn<=p)(w:World)(hc:c<=9223372036854775807):Calls Tryz.prog 245 #[.agg #[.int .i64 5,.slice A 0 c,.slice K 1 kc,.int .i64 0,.int .i64 0,.int .i64 0,.int .i64 nn,.bool false],.int .i64 p,.int .i64 255] w (RetV (.bool true) w):=by
 have B0:=Blk.new w 61 #[.int .i64 5,.slice A 0 c,.slice K 1 kc,.int .i64 0,.int .i64 0,.int .i64 0,.int .i64 nn,.bool false];have E0:=Ext.alloc w (.cells #[.int .i64 5,.slice A 0 c,.slice K 1 kc,.int .i64 0,.int .i64 0,.int .i64 0,.int .i64 nn,.bool false] 61);have HKN:=fun(w':World)=>lh (ykidsN_G 5 (1) (1) w' si);go_enter Tryz.func245,Tryz.ntmps245
 go_upto_region 1 with fail
 obtain⟨gx,hgx⟩:∃gx,gx=w.heap.size:=⟨_,rfl⟩
 rw[<-hgx] at B0 ⊢;clear hgx;generalize w.alloc (.cells #[.int .i64 5,.slice A 0 c,.slice K 1 kc,.int .i64 0,.int .i64 0,.int .i64 0,.int .i64 nn,.bool false] 61)=wa at *;have z0:wa.cell? ⟨gx,0,none⟩=some (.int .i64 5):=B0.cell 0
 go_upto_region 2 with(go_at_call 299;refine(HKN _).out.mono ?_;rintro e wb ⟨rfl,xb⟩)
 have Bb:=B0.ext xb;obtain⟨y0,y1,y2,y3,y4,y5,y6,y7⟩:wb.cell? ⟨gx,0,none⟩=some (.int .i64 5)/\wb.cell? ⟨gx,1,none⟩=some (.slice A 0 c)/\wb.cell? ⟨gx,2,none⟩=some (.slice K 1 kc)/\wb.cell? ⟨gx,3,none⟩=some (.int .i64 0)/\wb.cell? ⟨gx,4,none⟩=some (.int .i64 0)/\wb.cell? ⟨gx,5,none⟩=some (.int .i64 0)/\wb.cell? ⟨gx,6,none⟩=some (.int .i64 nn)/\wb.cell? ⟨gx,7,none⟩=some (.bool false):=⟨Bb.cell 0,Bb.cell 1,Bb.cell 2,Bb.cell 3,Bb.cell 4,Bb.cell 5,Bb.cell 6,Bb.cell 7⟩;clear z0 B0;have X0:=E0.trans xb;have a1:¬nn<1:=om;have a2:¬p<nn:=om
 go_wp2_with fail
 go_ret
 exact⟨rfl,X0⟩
theorem yfm11 (A K:Option Addr)(c kc:Nat)(p:Int)(nn:Int)(hn:0<=nn/\nn<=5)(w:World)(hc:c<=9223372036854775807):Calls Tryz.prog 245 #[.agg #[.int .i64 11,.slice A 0 c,.slice K 0 kc,.int .i64 0,.int .i64 0,.int .i64 0,.int .i64 nn,.bool false],.int .i64 p,.int .i64 255] w (RetV (.bool true) w):=by
 have B0:=Blk.new w 61 #[.int .i64 11,.slice A 0 c,.slice K 0 kc,.int .i64 0,.int .i64 0,.int .i64 0,.int .i64 nn,.bool false];have E0:=Ext.alloc w (.cells #[.int .i64 11,.slice A 0 c,.slice K 0 kc,.int .i64 0,.int .i64 0,.int .i64 0,.int .i64 nn,.bool false] 61);have HKN:=fun(w':World)=>lh (ykidsN_G 11 (0) (0) w' si);go_enter Tryz.func245,Tryz.ntmps245
 go_upto_region 1 with fail
 obtain⟨gx,hgx⟩:∃gx,gx=w.heap.size:=⟨_,rfl⟩
 rw[<-hgx] at B0 ⊢;clear hgx;generalize w.alloc (.cells #[.int .i64 11,.slice A 0 c,.slice K 0 kc,.int .i64 0,.int .i64 0,.int .i64 0,.int .i64 nn,.bool false] 61)=wa at *;have z0:wa.cell? ⟨gx,0,none⟩=some (.int .i64 11):=B0.cell 0
 go_upto_region 2 with(go_at_call 299;refine(HKN _).out.mono ?_;rintro e wb ⟨rfl,xb⟩)
 have Bb:=B0.ext xb;obtain⟨y0,y1,y2,y3,y4,y5,y6,y7⟩:wb.cell? ⟨gx,0,none⟩=some (.int .i64 11)/\wb.cell? ⟨gx,1,none⟩=some (.slice A 0 c)/\wb.cell? ⟨gx,2,none⟩=some (.slice K 0 kc)/\wb.cell? ⟨gx,3,none⟩=some (.int .i64 0)/\wb.cell? ⟨gx,4,none⟩=some (.int .i64 0)/\wb.cell? ⟨gx,5,none⟩=some (.int .i64 0)/\wb.cell? ⟨gx,6,none⟩=some (.int .i64 nn)/\wb.cell? ⟨gx,7,none⟩=some (.bool false):=⟨Bb.cell 0,Bb.cell 1,Bb.cell 2,Bb.cell 3,Bb.cell 4,Bb.cell 5,Bb.cell 6,Bb.cell 7⟩;clear z0 B0;have X0:=E0.trans xb;have a1:¬nn<0:=om;have a2:¬5<nn:=om
 go_wp2_with fail
 go_ret
 exact⟨rfl,X0⟩
theorem yformed_T (u C p:Int)(hp:C<=p)(S:Nat->Prop)(d:Nat)(w:World)(v:Value)(T:Tm)(h:TreeG 3 S w d v T)(hg:GdT u C T):Calls Tryz.prog 245 #[v,.int .i64 p,.int .i64 255] w (RetV (.bool true) w):=by
 obtain⟨e,rfl⟩:=h.pos;obtain⟨n,rfl,hok,hsl,hkl,hkc,hcl,hhd,htl,hks⟩:=h.node;have hh:HdOk u C T.hd T.kids:=by cases hg with|mk _ h1 h2=>exact h1
 rw[hhd] at hh;obtain⟨op,A,c,l,K,kc,ks,mn,mx,md,nn,neg⟩:=n;obtain⟨g0,g⟩:=hh;simp only[Nd.hd] at g0 g
 simp only at hsl hkl hkc hcl htl
 have hm:kc<=9223372036854775807:=by unfold maxLen at hkc;omega
 have hlc:=hsl.len;subst g0;unfold Nd.val
 simp only
 rcases g with⟨rfl,rfl,rfl,rfl,rfl,rfl,hk⟩|⟨rfl,hl,rfl,rfl,rfl,rfl,hk⟩|⟨ho,rfl,rfl,rfl,rfl,rfl,hk2,hk3⟩|⟨rfl,rfl,hm4,hmd,rfl,t,hk,_⟩|⟨rfl,_,rfl,rfl,rfl,rfl,hn1,hn2,hk⟩|⟨rfl,_,rfl,rfl,rfl,rfl,hn1,hn2,hk⟩
 ·have hz:ks.length=0:=by rw[htl,hk];rfl
  rw[hz];exact yfm0 A K c kc p w hlc.2
 ·have hz:ks.length=0:=by rw[htl,hk];rfl
  rw[hz];exact yfm1 A K c kc p w l hsl (setV8 hl)
 ·rcases ho with rfl|rfl
  ·exact yfm2 A K c kc p ks.length ⟨hkl,hm⟩ om w hlc.2
  ·exact yfm3 A K c kc p ks.length ⟨hkl,hm⟩ om w hlc.2
 ·have hz:ks.length=1:=by rw[htl,hk];rfl
  rw[hz];exact yfm4 A K c kc p mn mx md ⟨om,hm⟩ hm4 hmd w hlc.2
 ·have hz:ks.length=1:=by rw[htl,hk]
  rw[hz];exact yfm5 A K c kc p nn ⟨om,hm⟩ ⟨hn1,om⟩ w hlc.2
 ·have hz:ks.length=0:=by rw[htl,hk];rfl
  rw[hz];exact yfm11 A K c kc p nn ⟨hn1,hn2⟩ w hlc.2
theorem ywhole_T (u C p:Int)(hp:C<=p)(S:Nat->Prop):∀(d:Nat) (w:World) (v:Value) (T:Tm),TreeG 3 S w d v T->GdT u C T->Calls Tryz.prog 183 #[v,.int .i64 p,.int .i64 255] w (RetV (.bool true) w):=by
 intro d;induction d with
 | zero=>intro w v T h;obtain⟨e,he⟩:=h.pos;omega
 | succ d ih=>
  intro w v T h hg;obtain⟨n,rfl,hok,hsl,hkl,hkc,hcl,hhd,htl,hks⟩:=h.node;have HF:=fun(w':World) (x:Ext w w')=>lh (yformed_T u C p hp S (d+1) w' n.val T (h.ext x) hg);have HG:Hid (∀t∈T.kids,GdT u C t):=lh (by cases hg with|mk _ h1 h2=>exact h2);have HTL:=lh htl;clear htl hhd hg;obtain⟨op,A,c,l,K,kc,ks,mn,mx,md,nn,neg⟩:=n
  simp only at hsl hkl hkc hcl hks
  unfold Nd.val at HF ⊢
  simp only at HF ⊢
  have HIH:=lh ih;clear ih h hok;have B0:=Blk.new w 61 #[.int .i64 op,.slice A l.length c,.slice K ks.length kc,.int .i64 mn,.int .i64 mx,.int .i64 md,.int .i64 nn,.bool neg];have E0:=Ext.alloc w (.cells #[.int .i64 op,.slice A l.length c,.slice K ks.length kc,.int .i64 mn,.int .i64 mx,.int .i64 md,.int .i64 nn,.bool neg] 61);have HC:=lh (hcl.ext E0);have HK:=lh (fun i hi hj=>(hks i hi hj).ext E0);have HKL:ks.length<=kc/\kc<=9223372036854775807:=⟨hkl,by unfold maxLen at hkc;omega⟩;have HFa:=HF _ E0;clear hcl hks hsl hkl hkc HF;go_enter Tryz.func183,Tryz.ntmps183
  go_upto_region 1 with fail
  obtain⟨gx,hgx⟩:∃gx,gx=w.heap.size:=⟨_,rfl⟩
  rw[<-hgx] at B0 ⊢;clear hgx;generalize w.alloc (.cells #[.int .i64 op,.slice A l.length c,.slice K ks.length kc,.int .i64 mn,.int .i64 mx,.int .i64 md,.int .i64 nn,.bool neg] 61)=wa at *;have z0:wa.cell? ⟨gx,0,none⟩=some (.int .i64 op):=B0.cell 0;have z1:wa.cell? ⟨gx,1,none⟩=some (.slice A l.length c):=B0.cell 1;have z2:wa.cell? ⟨gx,2,none⟩=some (.slice K ks.length kc):=B0.cell 2;have z3:wa.cell? ⟨gx,3,none⟩=some (.int .i64 mn):=B0.cell 3;have z4:wa.cell? ⟨gx,4,none⟩=some (.int .i64 mx):=B0.cell 4;have z5:wa.cell? ⟨gx,5,none⟩=some (.int .i64 md):=B0.cell 5;have z6:wa.cell? ⟨gx,6,none⟩=some (.int .i64 nn):=B0.cell 6;have z7:wa.cell? ⟨gx,7,none⟩=some (.bool neg):=B0.cell 7
  go_wp2_with (go_at_call 245;refine HFa.out.mono ?_;rintro e wb ⟨rfl,xb⟩)
  ·have z2b:=xb.cell z2
   go_loopw [7] (fun v wr=>∃(i:Nat),v=.int .i64 i/\i<=ks.length/\Ext wa wr) (fun v _=>ks.length-(intOf v).toNat)
   case atStart=>exact⟨0,rfl,om,xb⟩
   case round=>
    obtain⟨i,rfl,hi,x1⟩:=hrel;have z2r:=x1.cell z2;by_cases hlt:i<ks.length
    ·have hiI:(i:Int)<ks.length:=om;obtain⟨b,o,hK,n,ht,k0,k1,k2,k3,k4,k5,k6,k7⟩:=kid8G (HC.out.ext x1) HTL.out (fun i hi hj=>(HK.out i hi hj).ext x1) hlt;have hK':=hK;subst hK';have HT:=lh ht;clear ht
     go_wp2_with (go_at_call 183;refine(HIH.out wr _ _ HT.out (HG.out _ (List.getElem_mem _))).mono ?_;rintro e w3 ⟨rfl,x3⟩)
     ·go_roundw
      case rel=>exact⟨i+1,by go_num,om,x1.trans x3⟩
      case measure=>simp[intOf];omega
    ·have hiI:¬(i:Int)<ks.length:=om
     go_wp2_with fail
     go_ret
     exact⟨rfl,E0.trans x1⟩
theorem yvalid_T (u:Int)(S:Nat->Prop)(d:Nat)(hd:d<=24)(w:World)(n:Nd)(gr:Int)(T:Tm)(ht:TreeG 3 S w d n.val T)(hg:GdT u gr T)(hgr:0<=gr/\gr<=9)(hc:cnt T<=256) :
 Calls Tryz.prog 99 #[.agg #[.int .i64 n.op,.slice n.A n.l.length n.c,.slice n.K n.ks.length n.kc,.int .i64 n.mn,.int .i64 n.mx,.int .i64 n.md,.int .i64 n.n,.bool n.neg,.int .i64 gr,.bool false]] w (RetV (.int .i64 0) w):=by
 have B0:=Blk.new w 63 #[.int .i64 n.op,.slice n.A n.l.length n.c,.slice n.K n.ks.length n.kc,.int .i64 n.mn,.int .i64 n.mx,.int .i64 n.md,.int .i64 n.n,.bool n.neg,.int .i64 gr,.bool false];have E0:=Ext.alloc w (.cells #[.int .i64 n.op,.slice n.A n.l.length n.c,.slice n.K n.ks.length n.kc,.int .i64 n.mn,.int .i64 n.mx,.int .i64 n.md,.int .i64 n.n,.bool n.neg,.int .i64 gr,.bool false] 63);have HT:=lh (ht.ext E0);have HG:=lh hg;have HC:=lh hc;have hg0:¬gr<0:=om;have hg9:¬9<gr:=om;clear ht hg hc hgr;go_enter Tryz.func99,Tryz.ntmps99
 go_upto_region 1 with fail
 obtain⟨gx,hgx⟩:∃gx,gx=w.heap.size:=⟨_,rfl⟩
 rw[<-hgx] at B0 ⊢;clear hgx;generalize w.alloc (.cells #[.int .i64 n.op,.slice n.A n.l.length n.c,.slice n.K n.ks.length n.kc,.int .i64 n.mn,.int .i64 n.mx,.int .i64 n.md,.int .i64 n.n,.bool n.neg,.int .i64 gr,.bool false] 63)=wa at *;have HB:=fun(w':World) (x:Ext wa w')=>show w'.cell? ⟨gx,0,none⟩=some (.int .i64 n.op)/\w'.cell? ⟨gx,1,none⟩=some (.slice n.A n.l.length n.c)/\w'.cell? ⟨gx,2,none⟩=some (.slice n.K n.ks.length n.kc)/\w'.cell? ⟨gx,3,none⟩=some (.int .i64 n.mn)/\w'.cell? ⟨gx,4,none⟩=some (.int .i64 n.mx)/\w'.cell? ⟨gx,5,none⟩=some (.int .i64 n.md)/\w'.cell? ⟨gx,6,none⟩=some (.int .i64 n.n)/\w'.cell? ⟨gx,7,none⟩=some (.bool n.neg)/\w'.cell? ⟨gx,8,none⟩=some (.int .i64 gr)/\w'.cell? ⟨gx,9,none⟩=some (.bool false) from⟨(B0.ext x).cell 0,(B0.ext x).cell 1,(B0.ext x).cell 2,(B0.ext x).cell 3,(B0.ext x).cell 4,(B0.ext x).cell 5,(B0.ext x).cell 6,(B0.ext x).cell 7,(B0.ext x).cell 8,(B0.ext x).cell 9⟩
 have HS:=fun(w':World) (x:Ext wa w')=>lh (ysize_G 3 S d w' n.val T (HT.out.ext x) (by have:=HC.out;omega));obtain⟨ct,hct⟩:∃k,k=cnt T:=⟨_,rfl⟩;have hx:¬(256:Int)<(ct:Int):=by have:=HC.out;omega
 rw[<-hct] at HS;clear hct;have HD:=fun(w':World) (x:Ext wa w')=>lh (ydepth_G 3 S d w' n.val om ⟨T,HT.out.ext x⟩);have HW:=fun(w':World) (x:Ext wa w')=>lh (ywhole_T u gr gr (Int.le_refl _) S d w' n.val T (HT.out.ext x) HG.out);unfold Nd.val at HS HD HW;obtain⟨z0,z1,z2,z3,z4,z5,z6,z7,z8,z9⟩:=HB _ (Ext.rfl' _)
 go_wp2_with (first|(go_at_call 181;refine(HS _ (Ext.rfl' _)).out.mono ?_;rintro e wb ⟨rfl,xb⟩;obtain⟨y0,y1,y2,y3,y4,y5,y6,y7,y8,y9⟩:=HB _ xb)|(go_at_call 182;refine(HD _ xb).out.mono ?_;rintro e wd ⟨x2,rfl,hx0,hx1,xd0⟩;have xd:=xb.trans xd0;clear xd0;obtain⟨v0,v1,v2,v3,v4,v5,v6,v7,v8,v9⟩:=HB _ xd;have hx24:¬24<x2:=om)|(go_at_call 183;refine(HW _ xd).out.mono ?_;rintro e we ⟨rfl,xe0⟩;have xe:=xd.trans xe0;clear xe0;obtain⟨u0,u1,u2,u3,u4,u5,u6,u7,u8,u9⟩:=HB _ xe))
 go_ret
 exact⟨rfl,E0.trans xe⟩
end
section
open Go.RowKit
def szH (h:Hd)(l:List Nat):Nat:=
 if h.op=1\/h.op=11 then 1 else if h.op=3 then l.sum+2*l.length-2 else if h.op=5 then l.sum+2 else if h.op=4 then(if h.mx = -1 then(h.mn.toNat+1)*l.sum+2 else h.mx.toNat*l.sum+(h.mx.toNat-h.mn.toNat)) else l.sum
def szF:Tm->Nat:=Tm.fold szH
theorem szF_eq (T:Tm):szF T=szH T.hd (T.kids.map szF):=Tm.fold_eq _ _
def szB:Nat->Nat
 | 0=>0
 | d+1=>3*szB d+4
theorem szB_le:∀{d:Nat},d<=6->szB d<=1456
 | 0,_=>by simp[szB]
 | 1,_=>by simp[szB]
 | 2,_=>by simp[szB]
 | 3,_=>by simp[szB]
 | 4,_=>by simp[szB]
 | 5,_=>by simp[szB]
 | 6,_=>by simp[szB]
 | d+7,h=>om
theorem sum_le {l:List Nat}{b:Nat}(h:∀x∈l,x<=b):l.sum<=l.length*b:=by
 induction l with
 | nil=>simp
 | cons a l ih=>
  have h1:=h a si;have h2:=ih (fun x hx=>h x (by simp[hx]));rw[List.sum_cons,List.length_cons,Nat.add_mul];omega
theorem szF_le {u C:Int}{S:Nat->Prop}{w:World}:∀{d:Nat} {v:Value} {T:Tm},TreeG 3 S w d v T->GdT u C T->szF T<=szB d
 | 0,v,T,h,_=>by obtain⟨e,he⟩:=h.pos;omega
 | d+1,v,T,h,hg=>by
  obtain⟨n,rfl,hok,_,_,_,_,hhd,htl,hks⟩:=h.node;obtain⟨hh,hk⟩:HdOk u C T.hd T.kids/\∀t∈T.kids,GdT u C t:=by cases hg with|mk _ h1 h2=>exact⟨h1,h2⟩
  have hb:∀x∈T.kids.map szF,x<=szB d:=by
   intro x hx;obtain⟨t,ht,rfl⟩:=List.mem_map.1 hx;obtain⟨i,hi,rfl⟩:=List.getElem_of_mem ht;exact szF_le (hks i om hi) (hk _ ht)
  have hs:=sum_le hb;rw[List.length_map] at hs;have hl:(T.kids.map szF).length=T.kids.length:=List.length_map ..;rw[szF_eq];unfold szH szB;rw[hl];generalize (T.kids.map szF).sum=s at *;rcases hh.num with⟨h0,_,_,_,_,_,hz⟩|⟨h0,_,_,_,_,_,hz⟩|⟨h0|h0,_,_,_,_,_,h2,h3⟩|⟨h0,_,⟨m1,m2,m3⟩,_,_,t,hz,_⟩|⟨h0,_,_,_,_,_,_,_,hz⟩|⟨h0,_,_,_,_,_,_,_,hz⟩
  ·rw[hz] at hs;simp[h0];simp at hs;omega
  ·simp[h0]
  ·simp[h0];have:T.kids.length*szB d<=3*szB d:=Nat.mul_le_mul_right _ h3;omega
  ·simp[h0];have:T.kids.length*szB d<=3*szB d:=Nat.mul_le_mul_right _ h3;omega
  ·rw[hz] at hs;simp only[List.length_cons,List.length_nil,Nat.zero_add,Nat.one_mul] at hs;have hn:T.hd.mn=0\/T.hd.mn=1\/T.hd.mn=2:=om;have hm:T.hd.mx = -1\/T.hd.mx=1\/T.hd.mx=2\/T.hd.mx=3:=om;rcases hn with hn|hn|hn<;>rcases hm with hm|hm|hm|hm<;>simp[h0,hn,hm]<;>omega
  ·rw[hz] at hs;simp[h0];omega
  ·simp[h0]
def VI (C hi:Int)(h:Hin):Prop:=
 (h.op=1/\h.x=0/\h.y=0/\h.n=0/\h.l∈sets8)\/(h.op=2/\(0<=h.x/\h.x<=hi)/\(0<=h.y/\h.y<=hi)/\h.n=0/\h.l=[])\/(h.op=3/\(0<=h.x/\h.x<=hi)/\h.y=0/\h.n=0/\h.l=[])\/(h.op=4/\h.x=0/\h.y=0/\(0<=h.n/\h.n+1<=2*C)/\h.l=[])
theorem VI.mono {C hi hj:Int}{h:Hin}(k:VI C hi h)(hh:hi<=hj):VI C hj h:=by
 rcases k with k|⟨k1,k2,k3,k4⟩|⟨k1,k2,k3⟩|k
 ·exact .inl k
 ·exact .inr (.inl ⟨k1,om,om,k4⟩)
 ·exact .inr (.inr (.inl ⟨k1,om,k3⟩))
 ·exact .inr (.inr (.inr k))
end
end Go.Proofs.YtmgpefenkilffaaGreat
