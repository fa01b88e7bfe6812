/- Texts of this proof: C0 P4 Hp E6o E6 E14 Cat E7. -/
import Derived.Test.YtmocoldobnimfaaGreatMS03
import Derived.Test.YtmocoldobnimfaaGreatMS04
import Derived.Lib.AppendZeros
set_option linter.all false
set_option maxHeartbeats 1000000
namespace Go.Proofs.YtmocoldobnimfaaGreat
section
open Go.RowKit
def zO (E:List Int)(l:List Sp):Prop:=l.length<=3/\∀s∈l,s.1∈E/\s.2+1∈E
def Jz:List Int:=[0,10,97,98,99,100,256,11]
theorem zO.nil (E:List Int):zO E []:=⟨by simp,by simp⟩
theorem aS {l:List Sp}(h:Vv l):zO Jz l:=by
 refine⟨by have:=h.1;omega,fun s hs=>?_⟩;obtain⟨⟨h1,h2⟩,_⟩:=h.2 s hs;constructor
 ·revert h1;simp only[Jz,List.mem_cons,List.not_mem_nil,or_false];omega
 ·revert h2;simp only[Jz,List.mem_cons,List.not_mem_nil,or_false];omega
theorem QQ.lowerN {w:World}{base base' e size n c:Nat}{A:Option Addr}{xs:List Value}(h:QQ w base e size A n c xs)(hb:base'<=base):QQ w base' e size A n c xs:=by
 refine⟨h.1,?_⟩;rcases h.2 with h|⟨g,cap,cur,h1,h2,h3⟩
 ·exact Or.inl h
 ·exact Or.inr ⟨g,cap,cur,h1,Nat.le_trans hb h2,h3⟩
def ZJ (w0:World)(h:Hin):Prop:=h.wf/\SL w0 h.A h.c h.l/\zO Jz h.l
theorem ZJ.plain (w0:World){op x y n:Int}(h:I64 op/\I64 x/\I64 y/\I64 n):ZJ w0 ⟨op,x,y,n,none,0,[]⟩:=⟨h,SL.nil _,zO.nil _⟩
structure CdI (w0 base w:World)(T:Nat)(A:Option Addr)(c:Nat)(hs:List Hin):Prop where
 own:QQ w base.heap.size T 5 A hs.length c (QT hs)
 ok:∀h∈hs,ZJ w0 h
 ext:Ext base w
theorem CdI.nil {w0 base w:World}{T:Nat}(h:Ext base w):CdI w0 base w T none 0 []:=⟨QQ.nil _ _ _ _,by simp,h⟩
theorem CdI.up {w0 base w w':World}{T:Nat}{A:Option Addr}{c:Nat}{hs:List Hin}(h:CdI w0 base w T A c hs)(x:Ext w w'):CdI w0 base w' T A c hs:=⟨QQ.ext h.own x,h.ok,h.ext.trans x⟩
theorem CdI.low {w0 base base' w:World}{T:Nat}{A:Option Addr}{c:Nat}{hs:List Hin}(h:CdI w0 base' w T A c hs)(x:Ext base base'):CdI w0 base w T A c hs:=⟨QQ.lowerN h.own x.size,h.ok,x.trans h.ext⟩
theorem CdI.len {w0 base w:World}{T:Nat}{A:Option Addr}{c:Nat}{hs:List Hin}(h:CdI w0 base w T A c hs):hs.length<=c/\c<=9223372036854775807:=QQ.caps h.own
def JT (T:Nat)(w0:World)(N:Nat)(w:World)(e:Ending)(w':World):Prop:=
 ∃(A:Option Addr) (c:Nat) (hs:List Hin),e=.returned (.slice A hs.length c)/\hs.length+2<=N/\CdI w0 w w' T A c hs
theorem JT.up {T:Nat}{w0 w w1:World}{N M:Nat}{e:Ending}{w':World}(h:JT T w0 N w1 e w')(x:Ext w w1)(hN:N<=M):JT T w0 M w e w':=by
 obtain⟨A,c,hs,rfl,h1,h2⟩:=h;exact⟨A,c,hs,rfl,om,QQ.lowerN h2.own x.size,h2.ok,x.trans h2.ext⟩
theorem Q7 {P:Program}{w0 base w:World}{T:Nat}{ops:Array Oper}{rest:List Oper}{o:Oper}{a:Act}{Q:Exit->Act->World->Prop}(hgd:o.guard=none)(s x:Operand)(t:Nat)
 (ho:o.op=.call { callee:=.builtin .append,args:=#[s,x],argTypes:=#[t,t] })
 (i:TypeInfo) (ht:P.underlying t=some (.slice T)) (hi:P.info? T=some i) (hz:i.zero=some (.agg #[.int .i64 0,.int .i64 0,.int .i64 0,.int .i64 0,.slice none 0 0]))
 (hsize:i.size=5) (hby:i.bytes=56)
 (A:Option Addr) (c:Nat) (hs:List Hin) (hA:a.eval s=.slice A hs.length c) (hown:CdI w0 base w T A c hs)
 (B:Option Addr) (d:Nat) (ks:List Hin) (hx:a.eval x=.slice B ks.length d) (hr:QP w B (QT ks)) (hok:∀h∈ks,ZJ w0 h)
 (hb:hs.length+ks.length<=1000000) (ys:List Hin) (hys:ys=hs++ks)
 (h:∀A' c' w',CdI w0 base w' T A' c' ys->Ext base w'->(∀b,A.map (·.block)=some b->base.heap.size<=b)->w.grownBy w' (A.map (·.block))->wpList P ops Q rest (a.put o.dst (.slice A' ys.length c')) w'):wpList P ops Q (o::rest) a w:=by
 have hrow:=QQ.row hown.own;refine Qv _ hgd s x t ho base.heap.size T i _ 5 56 ht hi hz hsize hby rfl om A hs.length c (QT hs) hA hown.own B ks.length d (QT ks) hx (JG ks) hr (vJ ks) um om hown.ext.size ?_;intro A' c' w' ho' hg' _;have hx':=hown.ext.grown hg' hrow;have hl:ys.length=hs.length+ks.length:=by rw[hys];simp
 rw[<-hl];refine h A' c' w' ⟨?_,?_,hx'⟩ hx' hrow hg'
 ·rw[hl,hys,qE];exact ho'
 ·rw[hys];intro z hz;rcases List.mem_append.1 hz with hz|hz
  ·exact hown.ok z hz
  ·exact hok z hz
theorem KV {w:World}{g T:Nat}{h:Hin}(hb:Blk w g T #[.int .i64 h.op,.int .i64 h.x,.int .i64 h.y,.int .i64 h.n,.slice h.A h.l.length h.c]):QP w (some ⟨g,0,none⟩) (QT [h]):=
 QC (by simpa[QT] using hb)
theorem Oj {w0 base w:World}{g T:Nat}{h:Hin}(hb:Blk w g T #[.int .i64 h.op,.int .i64 h.x,.int .i64 h.y,.int .i64 h.n,.slice h.A h.l.length h.c])(hg:base.heap.size<=g)(x:Ext base w)(hk:ZJ w0 h):CdI w0 base w T (some ⟨g,0,none⟩) 1 [h]:=
 ⟨by simpa[QT] using QQ.of_blk (n:=1) (c:=1) (size:=5) hb hg si si um,by simpa using hk,x⟩
theorem qF (B i:Nat):B*(i+1)=B*i+B:=Nat.mul_succ B i
theorem ZR {B i j:Nat}(h:i<=j):B*i<=B*j:=Nat.mul_le_mul_left B h
def WN (runes:Bool)(caps:Int)(n:Nat)(i:Ins):Prop:=
 (i.op=1\/i.set=[])/\(i.op=2\/i.y=0)/\(i.op=2\/i.op=3\/i.x=0)/\(i.op=4\/i.op=5\/i.n=0)/\
 (i.op=0\/(i.op=1/\QG i.set=0/\∀s,i.set.getLast? = some s->s.2<=Wj runes)\/(i.op=2/\(0<=i.x/\i.x<n)/\0<=i.y/\i.y<n)\/(i.op=3/\0<=i.x/\i.x<n)\/
  (i.op=4/\0<=i.n/\i.n<2*caps)\/(i.op=5/\0<=i.n/\i.n<=5))
open Classical in
noncomputable def WG (runes:Bool) (caps:Int) (G:List Ins):Int:=
 if 8192<G.length then 4 else if G.length=0\/caps<0\/9<caps then 1 else if ∀i∈G,WN runes caps G.length i then
  (match G.getLast? with|some i=>if i.op=0\/i.op=2\/i.op=3 then 0 else 1|none=>1) else 1
open Classical in
noncomputable def Vq (runes:Bool) (caps:Int) (G:List Ins):Int:=
 if WG runes caps G≠0 then WG runes caps G else if ∃i∈G,i.op=5 then 10 else 0
theorem vq {runes:Bool}{caps:Int}{G:List Ins}(h:8192<G.length):WG runes caps G=4:=by unfold WG;rw[if_pos h]
theorem Xq {runes:Bool}{caps:Int}{G:List Ins}(h:¬8192<G.length)(h2:G.length=0\/caps<0\/9<caps):WG runes caps G=1:=by unfold WG;rw[if_neg h,if_pos h2]
theorem Ok {runes:Bool}{caps:Int}{G:List Ins}(h:¬8192<G.length)(h2:¬(G.length=0\/caps<0\/9<caps)){k:Nat}(hk:k<G.length)(h3:¬WN runes caps G.length G[k]):WG runes caps G=1:=by
 unfold WG;rw[if_neg h,if_neg h2,if_neg (fun h4=>h3 (h4 _ (List.getElem_mem hk)))]
theorem Ov {runes:Bool}{caps:Int}{G:List Ins}(h:¬8192<G.length)(h2:¬(G.length=0\/caps<0\/9<caps))(h3:∀k (hk:k<G.length),WN runes caps G.length G[k])(hl:G.length-1<G.length) :
 WG runes caps G=if G[G.length-1].op=0\/G[G.length-1].op=2\/G[G.length-1].op=3 then 0 else 1:=by
 unfold WG;rw[if_neg h,if_neg h2,if_pos (fun i hi=>by obtain⟨k,hk,rfl⟩:=List.mem_iff_getElem.1 hi;exact h3 k hk),List.getLast?_eq_getElem?,List.getElem?_eq_getElem hl]
structure GOk (runes:Bool)(caps:Int)(G:List Ins):Prop where
 len:0<G.length/\G.length<=8192
 cap9:0<=caps/\caps<=9
 ins:∀k (hk:k<G.length),WN runes caps G.length G[k]
 last:∀hl:G.length-1<G.length,G[G.length-1].op=0\/G[G.length-1].op=2\/G[G.length-1].op=3
 plain:∀k (hk:k<G.length),G[k].op≠5
theorem CN {runes:Bool}{caps:Int}{G:List Ins}(h:Vq runes caps G=0):GOk runes caps G:=by
 unfold Vq at h
 split at h
 ·contradiction
 ·rename_i hp
  have hp:WG runes caps G=0:=Classical.not_not.1 hp
  split at h
  ·cases h
  ·rename_i hn
   unfold WG at hp
   split at hp
   ·cases hp
   ·split at hp
    ·cases hp
    ·split at hp
     ·rename_i h1 h2 h3
      refine⟨om,om,fun k hk=>h3 _ (List.getElem_mem hk),fun hl=>?_,fun k hk e=>hn ⟨_,List.getElem_mem hk,e⟩⟩;rw[List.getLast?_eq_getElem?,List.getElem?_eq_getElem hl] at hp
      simp only at hp
      split at hp
      ·assumption
      ·cases hp
     ·cases hp
namespace GOk
variable {runes:Bool} {caps:Int} {G:List Ins}
theorem op (h:GOk runes caps G){k:Nat}(hk:k<G.length):G[k].op=0\/G[k].op=1\/G[k].op=2\/G[k].op=3\/G[k].op=4:=by
 have h1:=(h.ins k hk).2.2.2.2;have h2:=h.plain k hk;omega
theorem next (h:GOk runes caps G){k:Nat}(hk:k<G.length)(ho:G[k].op=1\/G[k].op=4):k+1<G.length:=by
 rcases Nat.lt_or_ge (k+1) G.length with h1|h1
 ·exact h1
 ·have e:G.length-1=k:=om;have h2:=h.last om;have h3:G[G.length-1]'om=G[k]:=by congr 1
  rw[h3] at h2;omega
theorem jump (h:GOk runes caps G){k:Nat}(hk:k<G.length)(ho:G[k].op=2\/G[k].op=3):∃x:Nat,G[k].x=x/\x<G.length:=by
 have h1:=(h.ins k hk).2.2.2.2;exact⟨G[k].x.toNat,om,om⟩
theorem jump2 (h:GOk runes caps G){k:Nat}(hk:k<G.length)(ho:G[k].op=2):∃y:Nat,G[k].y=y/\y<G.length:=by
 have h1:=(h.ins k hk).2.2.2.2;exact⟨G[k].y.toNat,om,om⟩
end GOk
theorem jH (h:Hin)(hs:List Hin):QT (h::hs)=.int .i64 h.op::.int .i64 h.x::.int .i64 h.y::.int .i64 h.n::.slice h.A h.l.length h.c::QT hs:=rfl
theorem Mz (A:Option Addr)(c:Nat)(l:List Int)(m:Nat)(w:World)(hl:IL w A c l)(hm:m<=1000000) :
 Calls Tryz.prog 25 #[.slice A l.length c,.int .i64 m] w (iT (rtext l m) w):=by
 obtain⟨i0,hi0,hz0,hz1,hz2⟩:=info_parts VV;obtain⟨a1,a2⟩:=hl.len;go_enter Tryz.func25,Tryz.ntmps25
 go_wp2
 go_loopw [5,6] (fun v i wr=>∃(k:Nat) (A':Option Addr) (c':Nat),k<=l.length/\k<=m/\i=.int .i64 k/\v=.slice A' (rtext l k).length c'/\WO wr w.heap.size 3 A' c' (rtext l k)/\Ext w wr) (fun _ i _=>l.length-(intOf i).toNat)
 case atStart=>exact⟨0,none,0,Nat.zero_le _,Nat.zero_le _,rfl,rfl,QQ.nil _ _ _ _,Ext.rfl' _⟩
 case round=>
  obtain⟨k,A',c',hk,hkm,rfl,rfl,hown,hext⟩:=hrel;have hlr:=vX l k;by_cases hlt:k<l.length
  ·by_cases hlm:k<m
   ·have e1:=Ext.alloc wr (.cells (Yj.map (Value.int .i64)).toArray 3);have hB:=(Blk.new wr 3 (Yj.map (Value.int .i64)).toArray);have hs:=MY l k hlt;have hp:=vK l[k] 12 om;have hpk:pick l k 12=around l[k] 12:=by simp[pick,hlt]
    obtain⟨p,hp12,hpp⟩:∃p:Nat,p<12/\around l[k] 12=(p:Int):=⟨(around l[k] 12).toNat,om,om⟩;have hsy:wB l[k]=Yj.getD p 0:=by unfold wB;rw[hpp];rfl
    rw[hsy] at hs;rw[hpp] at hpk;have HS:=lh hs;have HP:=lh hpk;clear hs hpk hsy hpp hp
    go_wp2_with fail
    refine(xL A c l k 12 _ (hl.ext (hext.trans e1)) om om om).mono ?_;rintro e w1 h1;obtain⟨rfl,hx1⟩:=h1.v;rw[HP.out];have hcell:=(hB.ext hx1).cell p;rw[show((Yj.map (Value.int .i64)).toArray)[p]? = some (.int .i64 (Yj.getD p 0)) by
     simp[List.getD,List.getElem?_eq_getElem (show p<Yj.length from hp12)]] at hcell
    have hE:=hext.trans (e1.trans hx1);have hown1:=QQ.ext hown (e1.trans hx1);have hlt1:=(hB.ext hx1).lt;clear hB;have hp0:(p:Int)<12:=om;have HT:=lh (F0 p hp12);generalize Yj.getD p 0=s at *
    go_wp2_with ((at_builtin;refine KN (w1:=w1) rfl _ _ _ rfl 3 VV Tryz.underlying22 w hE s rfl A' c' (rtext l k) rfl hown1 rfl om (rtext l (k+1)) HS.out ?_;intro A2 c2 w2 hown2 hext2 _ _))
    go_roundw
    case rel=>exact⟨k+1,A2,c2,om,om,by go_num,rfl,hown2,hext2⟩
    case measure=>simp[intOf];omega
   ·have hk':k=m:=om;subst hk'
    go_wp2
    go_ret
    exact⟨A',c',rfl,hown,fun x hx=>OW (by have:=jF l k x hx;omega),hext⟩
  ·have hk':rtext l k=rtext l m:=by
    unfold rtext;rw[List.take_of_length_le om,List.take_of_length_le om]
   rw[hk'] at hown;have HK:=lh hk';clear hk'
   go_wp2
   go_ret
   rw[<-HK.out] at hown ⊢;exact⟨A',c',rfl,hown,fun x hx=>OW (by have:=jF l k x hx;omega),hext⟩
theorem CO (A:Option Addr)(c:Nat)(l:List Int)(m:Nat)(w:World)(hl:IL w A c l)(hm:m<=1000000) :
 Calls Tryz.prog 25 #[.slice A l.length c,.int .i64 m] w (iD (rtext l m) w):=
 (Mz A c l m w hl hm).mono (fun _ _ ⟨A',c',h1,ho,hr,x⟩=>⟨A',c',h1,IL.of_own ho hr,x,QQ.row ho⟩)
structure LL (w:World)(A:Option Addr)(c:Nat)(xss:List (List Int)):Prop where
 le:xss.length<=c
 cap:c<=maxLen
 at_:xss≠[]->∃b o,A=some ⟨b,o,none⟩/\∀i (h:i<xss.length),∃B d,w.cell? ⟨b,o+i,none⟩=some (.slice B xss[i].length d)/\IL w B d xss[i]
structure Ed where
 at_:Int
 del:Int
 ins:List Int
end
