/- The walk of (*Desk).Take for an item that is new. -/
import Derived.Test.YthhfjomjjhenkaaD4
import Derived.Outline
namespace Go.Proofs.Ythhfjomjjhenkaa
open Go.RowKit
attribute [local go_sem ↓] Go.wp_at_zero Go.wp_at_succ

/-- what Take leaves of an item that is new -/
def RetTk (base g m1 m2 : Nat) (A : Option Addr) (ap : List (Int × Int × Int)) (nx : List (Int × Int)) (hd : List ((Int × Int) × Hv)) (x : It) (w : World) (e : Ending) (w' : World) : Prop :=
  ∃ (B : Option Addr) (d : Nat) (L : Option Addr) (cl : Nat) (out : List Oe) (A' : Option Addr) (c' : Nat) (s' : Ds),
    e = .returned (.tuple #[.slice L out.length cl, .int .i64 0]) ∧ Steps ⟨ap, nx, hd ++ [((x.client, x.number), ⟨x, B, d⟩)]⟩ out s' ∧ noRdy s' ∧
    TkI w' base w.heap.size g m1 m2 A' c' s' L cl out ∧ KpP (ownB g m1 m2 A) w w' ∧ (∀ b, A'.map (·.block) = some b → A.map (·.block) = some b ∨ w.heap.size ≤ b) ∧ ∀ b, B.map (·.block) = some b → w.heap.size ≤ b

theorem putL_new {α β : Type} [DecidableEq α] {l : List (α × β)} {x : α} (h : at? l x = none) (v : β) : putL l x v = l ++ [(x, v)] := by
  unfold putL
  have : l.any (fun p => p.1 == x) = false := by
    unfold at? at h
    rw [Option.map_eq_none_iff, List.find?_eq_none] at h
    rw [List.any_eq_false]; exact h
  rw [this]; simp
theorem KpP.kp {p : Nat → Prop} {a b : World} {L : List Nat} (h : Kp L a b) (hp : ∀ i ∈ L, p i) : KpP p a b := ⟨h.os, h.tape, h.output, h.size, fun k hk hn => h.block k hk (fun hm => hn (hp k hm))⟩
theorem WI_kp {L : List Nat} {I : List (Nat × Nat)} {a b : World} {p : Nat → Prop} (h : KpP p a b) (hp : ∀ i, p i → i ∈ L) : WI L I a b := KpP.mono h (fun k hk => .inl (hp k hk))
theorem Kp.kpP {L : List Nat} {a b c : World} {p : Nat → Prop} (h : Kp L a b) (k : KpP p b c) (hp : ∀ i, p i → i ∈ L) : Kp L a c :=
  ⟨k.os.trans h.os, k.tape.trans h.tape, k.output.trans h.output, Nat.le_trans h.size k.size, fun i hi hn => (k.block i (Nat.lt_of_lt_of_le hi h.size) (fun hq => hn (hp i hq))).trans (h.block i hi hn)⟩

/-- m[k] = v where it is the one operation that comes up -/
theorem wp_put {α β : Type} [DecidableEq α] {P : Program} {w : World} {b k e t : Nat} {kv : α → Value} {vv : β → Value} {l : List (α × β)} {o : Oper} {a : Act} {K : Act → World → Prop} {Q : Exit → Act → World → Prop} (m x v : Operand) (hop : o.op = Op.mapUpdate t m x v)
    (KL : KLaw P k kv) (ht : P.underlying t = some (.map k e)) (h : MapAt w b kv vv l) (y : α) (z : β) (hm : a.eval m = .map (some b)) (hx : a.eval x = kv y) (hv : a.eval v = vv z)
    (hK : ∀ w', MapAt w' b kv vv (putL l y z) → KpP (· = b) w w' → K (a.put o.dst undef) w') : o.wp P a w K Q := by
  obtain ⟨ob, hrun, hat⟩ := h.put KL ht y z
  unfold Oper.wp
  simp only [execOp, hop, hm, hx, hv, hrun, Sem.run_bind, Sem.run_pure, Result.andThen_ok]
  exact hK _ hat (kp_setBlock _ _ _)
theorem wp_del {α β : Type} [DecidableEq α] {P : Program} {w : World} {b k e t : Nat} {kv : α → Value} {vv : β → Value} {l : List (α × β)} {o : Oper} {a : Act} {K : Act → World → Prop} {Q : Exit → Act → World → Prop} (m x : Operand)
    (hop : o.op = .call { callee := .builtin .delete, args := #[m, x], argTypes := #[t, k] }) (KL : KLaw P k kv) (ht : P.underlying t = some (.map k e)) (h : MapAt w b kv vv l) (y : α) (hm : a.eval m = .map (some b)) (hx : a.eval x = kv y)
    (hK : ∀ w', MapAt w' b kv vv (delL l y) → KpP (· = b) w w' → K (a.put o.dst (.tuple #[])) w') : o.wp P a w K Q := by
  obtain ⟨ob, hrun, hat⟩ := h.del KL ht o.type y
  unfold Oper.wp execOp
  simp only [hop, resolve, invoke, builtin, Sem.run_bind, Sem.run_pure, Result.andThen_ok, List.map_toArray, List.map_cons, List.map_nil, hm, hx, hrun]
  exact hK _ hat (kp_setBlock _ _ _)

theorem TkI.putHd {w w' : World} {base base2 g m1 m2 c cl : Nat} {A L : Option Addr} {s : Ds} {out : List Oe} (h : TkI w base base2 g m1 m2 A c s L cl out) (k : KpP (· = m2) w w') {it : It} {B : Option Addr} {d : Nat}
    (hn : MapAt w' m2 keyV hvV (s.hd ++ [((it.client, it.number), ⟨it, B, d⟩)])) (hok : ItOk it) (hi : IL w B d it.e.ins) (hsep : it.e.ins ≠ [] → ∀ b, B.map (·.block) = some b → b ≠ g ∧ Off A b ∧ Off L b) (hs : s.ap.length + (s.hd.length + 1) ≤ 5000) :
    TkI w' base base2 g m1 m2 A c ⟨s.ap, s.nx, s.hd ++ [((it.client, it.number), ⟨it, B, d⟩)]⟩ L cl out := by
  obtain ⟨k1, k2, k3, k4, k5⟩ := h.keep k (.inr rfl)
  have hi' : IL w' B d it.e.ins := hi.kp k (fun hx b hb => by
    rintro rfl
    obtain ⟨b', o, rfl, hc⟩ := hi.at_ hx
    have : b' = b := by simpa using hb
    subst this
    exact h.desk.held.cellNe (hc 0 (List.length_pos_iff.2 hx)) rfl)
  refine ⟨⟨k1, k2, h.desk.next.kp k h.desk.ne2, hn, h.desk.ne, h.desk.ne2, fun p hp => ?_, h.desk.lo⟩, fun p hp => ?_, h.bd, by simp only [List.length_append, List.length_cons, List.length_nil]; omega, k3, fun o ho => ⟨k4 o ho, (h.oil o ho).2⟩, fun p hp => ?_, h.lg, h.lA⟩
  · rcases List.mem_append.1 hp with hp | hp
    · exact ⟨(h.desk.il p hp).1, k5 p hp, (h.desk.il p hp).2.2⟩
    · obtain rfl : p = ((it.client, it.number), ⟨it, B, d⟩) := by simpa using hp
      exact ⟨rfl, hi', fun hx b hb => ⟨(hsep hx b hb).1, (hsep hx b hb).2.1⟩⟩
  · rcases List.mem_append.1 hp with hp | hp
    · exact h.ok p hp
    · obtain rfl : p = ((it.client, it.number), ⟨it, B, d⟩) := by simpa using hp
      exact hok
  · rcases List.mem_append.1 hp with hp | hp
    · exact h.hil p hp
    · obtain rfl : p = ((it.client, it.number), ⟨it, B, d⟩) := by simpa using hp
      exact fun hx b hb => (hsep hx b hb).2.2

theorem overAll_bd {B : Int} (hB : 0 ≤ B) : ∀ (l : List (Int × Int × Int)) (x : Int × Int) (S : Int), 0 ≤ x.1 ∧ 0 ≤ x.2 → x.1 + x.2 ≤ S → (∀ y ∈ l, 0 ≤ y.1 ∧ 0 ≤ y.2.1 ∧ 0 ≤ y.2.2 ∧ y.2.2 ≤ B) →
    0 ≤ (overAll x l).1 ∧ 0 ≤ (overAll x l).2 ∧ (overAll x l).1 + (overAll x l).2 ≤ S + l.length * B
  | [], x, S, h0, hs, _ => by simp [overAll]; exact ⟨h0.1, h0.2, hs⟩
  | y :: l, x, S, h0, hs, hy => by
    have h1 := overOne_bd h0 hs (hy y (by simp))
    have h2 := overAll_bd hB l (overOne x y) (S + B) ⟨h1.1, h1.2.1⟩ h1.2.2 (fun z hz => hy z (by simp [hz]))
    have e : overAll x (y :: l) = overAll (overOne x y) l := rfl
    rw [e]
    refine ⟨h2.1, h2.2.1, ?_⟩
    have := h2.2.2
    have e2 : ((y :: l).length : Int) * B = l.length * B + B := by rw [List.length_cons, Int.natCast_add, Int.add_mul]; simp
    rw [e2]; omega
theorem XL.ext {w w' : World} {A : Option Addr} {c : Nat} {xs : List (Int × Int × Int)} (h : XL w A c xs) (k : Ext w w') : XL w' A c xs := by
  refine ⟨h.le, h.cap, fun hn => ?_⟩
  obtain ⟨b, o, rfl, hc⟩ := h.at_ hn
  exact ⟨b, o, rfl, fun i hi => ⟨k.cell (hc i hi).1, k.cell (hc i hi).2.1, k.cell (hc i hi).2.2⟩⟩
theorem infoX : (Try.prog.info? 81).map (fun i => (i.zero, i.size, i.bytes)) = some (some (.agg #[.int .i64 0, .int .i64 0, .int .i64 0]), 3, 24) := by kernel_rfl
theorem infoE : (Try.prog.info? 25).map (fun i => (i.zero, i.size, i.bytes)) = some (some (.agg #[.int .i64 0, .int .i64 0, .slice none 0 0]), 3, 40) := by kernel_rfl
theorem blk_cells {w : World} {g T : Nat} {cs : List Value} (h : Blk w g T cs.toArray) : CellsAt w (some ⟨g, 0, none⟩) cs := fun _ => ⟨g, 0, rfl, fun i hi => by rw [h.cell]; simp [hi]⟩

theorem KpP.thenKp {p : Nat → Prop} {a b c : World} {L : List Nat} (h : KpP p a b) (k : Kp L b c) (hp : ∀ i ∈ L, p i ∨ a.heap.size ≤ i) : KpP p a c :=
  ⟨k.os.trans h.os, k.tape.trans h.tape, k.output.trans h.output, Nat.le_trans h.size k.size, fun i hi hn => (k.block i (Nat.lt_of_lt_of_le hi h.size) (fun hm => (hp i hm).elim hn (fun e => by omega))).trans (h.block i hi hn)⟩
theorem KpP.thenGrown {p : Nat → Prop} {a b c : World} {A : Option Addr} (h : KpP p a b) (k : b.grownBy c (A.map (·.block))) (hp : ∀ i, A.map (·.block) = some i → a.heap.size ≤ i) : KpP p a c := by
  have kk := KpP.of_grown k
  exact ⟨kk.os.trans h.os, kk.tape.trans h.tape, kk.output.trans h.output, Nat.le_trans h.size kk.size, fun i hi hn => (kk.block i (Nat.lt_of_lt_of_le hi h.size) (fun hm => by have := hp i hm; omega)).trans (h.block i hi hn)⟩

theorem run_len_at {P : Program} {w : World} {t k e ty : TypeId} (ht : P.underlying t = some (.map k e)) {b : Nat} {es : Array MapEntry} {clock : Nat} (hb : w.heap[b]? = some (.map es clock)) :
    (Builtin.len_ #[t] ty #[.map (some b)]).run P w = .ok (.int .i64 es.size) w := by
  simp [Builtin.len_, run_underlying ht, MapKept.run_getObj_map hb, goInt]

set_option maxRecDepth 100000 in
set_option maxHeartbeats 16000000 in
theorem take_new (base g m1 m2 : Nat) (A : Option Addr) (c : Nat) (ap : List (Int × Int × Int)) (nx : List (Int × Int)) (hd : List ((Int × Int) × Hv)) (x : It) (A0 : Option Addr) (c0 : Nat) (w : World) (hD : DeskAt w base g m1 m2 A c ap nx hd)
    (hx : ItOk x) (hl : IL w A0 c0 x.e.ins) (hno : at? hd (x.client, x.number) = none) (hge : nxOf nx x.client ≤ x.number) (hok : ∀ p ∈ hd, ItOk p.2.it) (hbd : BdX ap) (hla : ap.length < 4096) (hlh : hd.length < 256) :
    Calls Try.prog 19 #[.pointer (some ⟨g, 0, none⟩), itV x A0 c0] w (RetTk base g m1 m2 A ap nx hd x w) := by
  obtain ⟨xc, xn, xb, ⟨xa, xd, xs⟩⟩ := x
  obtain ⟨h1, h2, h3, h4, h5, h6, h7⟩ := hx
  simp only at h1 h2 h3 h4 h5 h6 h7 hl hno hge
  have ht := hno
  obtain ⟨b1, x1⟩ := alloc1 w 39 #[.int .i64 xc, .int .i64 xn, .int .i64 xb, .int .i64 xa, .int .i64 xd, .slice A0 xs.length c0]
  have H7 := Lib.hid h7
  have HT := Lib.hid ht
  clear h7 ht
  unfold itV
  have p0 := b1.cell 0
  have p1 := b1.cell 1
  have p2 := b1.cell 2
  have p3 := b1.cell 3
  have p4 := b1.cell 4
  have p5 := b1.cell 5
  simp only [List.getElem?_toArray, List.getElem?_cons_succ, List.getElem?_cons_zero] at p0 p1 p2 p3 p4 p5
  simp only
  go_enter Try.func19, Try.ntmps19
  go_wp2_with fail
  refine (wellFormed_any _ _ _ _ _ _ (hl.ext x1)).mono ?_
  rw [H7.out]
  rintro e w1 ⟨rfl, x2⟩
  replace b1 := b1.ext x2
  have hz1 := b1.lt
  clear p0 p1 p2 p3 p4 p5
  have p0 := b1.cell 0
  have p1 := b1.cell 1
  simp only [List.getElem?_toArray, List.getElem?_cons_succ, List.getElem?_cons_zero] at p0 p1
  replace x1 := x1.trans x2
  clear x2
  go_wp2_with fail
  obtain ⟨b6, x2⟩ := alloc1 w1 92 #[.int .i64 xc, .int .i64 xn]
  replace b1 := b1.ext x2
  replace x1 := x1.trans x2
  clear x2 p0 p1
  have hDw := hD.ext x1
  have hg6 : w1.heap.size < (w1.alloc (.cells #[.int .i64 xc, .int .i64 xn] 92)).heap.size := by simp
  generalize hW2 : w1.alloc (.cells #[.int .i64 xc, .int .i64 xn] 92) = W2 at *
  clear hW2
  obtain ⟨h, hh⟩ : ∃ h : Hv, h = (at? hd (xc, xn)).getD ⟨⟨0, 0, 0, ⟨0, 0, []⟩⟩, none, 0⟩ := ⟨_, rfl⟩
  have hlk : ∀ W', Kp [] W2 W' → (Instr.lookup 87 (.map (some m2)) (.agg #[.int .i64 xc, .int .i64 xn]) true).run Try.prog W' = .ok (.tuple #[hvV h, .bool (at? hd (xc, xn)).isSome]) W' := fun W' hk => by
    have := ((hDw.held.ext hk.nil).look klawKey Try.underlying87 (zItem _) (xc, xn)).2
    rw [hh]
    refine this.trans ?_
    cases at? hd (xc, xn) <;> rfl
  clear hh
  rw [HT.out] at hlk
  simp only [Option.isSome_none] at hlk
  obtain ⟨⟨hc, hn, hb, ⟨ha, hdl, hs⟩⟩, hA, hk⟩ := h
  simp only [hvV, itV] at hlk
  obtain ⟨d0, d1, d2, d0f, d1f, d2f, dz⟩ := hDw.blk.c3
  obtain ⟨k0, k1, k0f, k1f, kz⟩ := b6.c2
  have kd2 := fun (w' : World) (h : Kp [] W2 w') => h.cell d2 (by simp)
  have kk0 := fun (w' : World) (h : Kp [] W2 w') => h.cell k0 (by simp)
  have kk1 := fun (w' : World) (h : Kp [] W2 w') => h.cell k1 (by simp)
  refine Xr.start [] (by kernel_rfl) ?_
  repeat (first | (refine Xr.take 0 (some 53) (v := ?_) rfl rfl (by decide +kernel) (by rfl) ?_ ?_; rotate_left; (focus (intro w' hk; go_simp; (try with_reducible rfl); done)); (try simp only [Act.put, List.setIfInBounds_toArray, List.set_cons_zero, List.set_cons_succ])) | (refine Xr.take 1 (some 54) (v := ?_) rfl rfl (by decide +kernel) (by rfl) ?_ ?_; rotate_left; (focus (intro w' hk; go_simp; (try with_reducible rfl); done)); (try simp only [Act.put, List.setIfInBounds_toArray, List.set_cons_zero, List.set_cons_succ])) | (refine Xr.take 2 (some 55) (v := ?_) rfl rfl (by decide +kernel) (by rfl) ?_ ?_; rotate_left; (focus (intro w' hk; go_simp; (try with_reducible rfl); done)); (try simp only [Act.put, List.setIfInBounds_toArray, List.set_cons_zero, List.set_cons_succ])) | (refine Xr.take 3 (some 56) (v := ?_) rfl rfl (by decide +kernel) (by rfl) ?_ ?_; rotate_left; (focus (intro w' hk; go_simp; (try with_reducible rfl); done)); (try simp only [Act.put, List.setIfInBounds_toArray, List.set_cons_zero, List.set_cons_succ])) | (refine Xr.take 4 (some 57) (v := ?_) rfl rfl (by decide +kernel) (by rfl) ?_ ?_; rotate_left; (focus (intro w' hk; go_simp; (try with_reducible rfl); done)); (try simp only [Act.put, List.setIfInBounds_toArray, List.set_cons_zero, List.set_cons_succ])) | (refine Xr.take 5 (some 58) (v := ?_) rfl rfl (by decide +kernel) (by rfl) ?_ ?_; rotate_left; (focus (intro w' hk; go_simp; (try with_reducible rfl); done)); (try simp only [Act.put, List.setIfInBounds_toArray, List.set_cons_zero, List.set_cons_succ])) | (refine Xr.take 6 (some 52) (v := ?_) rfl rfl (by decide +kernel) (by rfl) ?_ ?_; rotate_left; (focus (intro w' hk; go_simp; (try with_reducible rfl); done)); (try simp only [Act.put, List.setIfInBounds_toArray, List.set_cons_zero, List.set_cons_succ])) | (refine Xr.take 7 (some 59) (v := ?_) rfl rfl (by decide +kernel) (by rfl) ?_ ?_; rotate_left; (focus (intro w' hk; go_simp; (try with_reducible rfl); done)); (try simp only [Act.put, List.setIfInBounds_toArray, List.set_cons_zero, List.set_cons_succ])) | (refine Xr.take 8 (some 60) (v := ?_) rfl rfl (by decide +kernel) (by rfl) ?_ ?_; rotate_left; (focus (intro w' hk; go_simp; (try with_reducible rfl); done)); (try simp only [Act.put, List.setIfInBounds_toArray, List.set_cons_zero, List.set_cons_succ])) | (refine Xr.take 11 (some 8) (v := ?_) rfl rfl (by decide +kernel) (by rfl) ?_ ?_; rotate_left; (focus (intro w' hk; go_simp; (try with_reducible rfl); done)); (try simp only [Act.put, List.setIfInBounds_toArray, List.set_cons_zero, List.set_cons_succ])))
  refine Xr.lazy 9 7 10 (fun g => .pointer (some ⟨g, 0, none⟩)) 39 #[.int .i64 0, .int .i64 0, .int .i64 0, .int .i64 0, .int .i64 0, .slice none 0 0] rfl (by simp) (by decide +kernel) (by simp) (fun w' => by go_simp) ?_
  refine Xr.stepZ rfl (by decide +kernel) (fun _ => by rfl) (fun w7 g7 hE7 hK7 hg7 hB _ K hKK => ?_)
  (try simp only [Act.put, List.setIfInBounds_toArray, List.set_cons_zero, List.set_cons_succ])
  have hbz := hB.lt
  have s0 := hB.frz 0
  have s1 := hB.frz 1
  have s2 := hB.frz 2
  have s3 := hB.frz 3
  have s4 := hB.frz 4
  have s5 := hB.frz 5
  have t0 := hB.cell 0
  have t1 := hB.cell 1
  have t2 := hB.cell 2
  have t3 := hB.cell 3
  have t4 := hB.cell 4
  have t5 := hB.cell 5
  simp only [List.getElem?_toArray, List.getElem?_cons_succ, List.getElem?_cons_zero] at t0 t1 t2 t3 t4 t5
  go_simp
  refine hKK _ _ (WI_set (WI_set (WI_set (WI_set (WI_set (WI_set (WI_refl _ _ _) _ _) _ _) _ _) _ _) _ _) _ _) ((((((hK7.setN hg7 _ _).setN hg7 _ _).setN hg7 _ _).setN hg7 _ _).setN hg7 _ _).setN hg7 _ _) ?_
  clear hKK
  (try simp only [Act.put, List.setIfInBounds_toArray, List.set_cons_zero, List.set_cons_succ])
  repeat (first | (refine Xr.take 0 (some 53) (v := ?_) rfl rfl (by decide +kernel) (by rfl) ?_ ?_; rotate_left; (focus (intro w' hk; go_simp; (try with_reducible rfl); done)); (try simp only [Act.put, List.setIfInBounds_toArray, List.set_cons_zero, List.set_cons_succ])) | (refine Xr.take 1 (some 54) (v := ?_) rfl rfl (by decide +kernel) (by rfl) ?_ ?_; rotate_left; (focus (intro w' hk; go_simp; (try with_reducible rfl); done)); (try simp only [Act.put, List.setIfInBounds_toArray, List.set_cons_zero, List.set_cons_succ])) | (refine Xr.take 2 (some 55) (v := ?_) rfl rfl (by decide +kernel) (by rfl) ?_ ?_; rotate_left; (focus (intro w' hk; go_simp; (try with_reducible rfl); done)); (try simp only [Act.put, List.setIfInBounds_toArray, List.set_cons_zero, List.set_cons_succ])) | (refine Xr.take 3 (some 56) (v := ?_) rfl rfl (by decide +kernel) (by rfl) ?_ ?_; rotate_left; (focus (intro w' hk; go_simp; (try with_reducible rfl); done)); (try simp only [Act.put, List.setIfInBounds_toArray, List.set_cons_zero, List.set_cons_succ])) | (refine Xr.take 4 (some 57) (v := ?_) rfl rfl (by decide +kernel) (by rfl) ?_ ?_; rotate_left; (focus (intro w' hk; go_simp; (try with_reducible rfl); done)); (try simp only [Act.put, List.setIfInBounds_toArray, List.set_cons_zero, List.set_cons_succ])) | (refine Xr.take 5 (some 58) (v := ?_) rfl rfl (by decide +kernel) (by rfl) ?_ ?_; rotate_left; (focus (intro w' hk; go_simp; (try with_reducible rfl); done)); (try simp only [Act.put, List.setIfInBounds_toArray, List.set_cons_zero, List.set_cons_succ])) | (refine Xr.take 6 (some 52) (v := ?_) rfl rfl (by decide +kernel) (by rfl) ?_ ?_; rotate_left; (focus (intro w' hk; go_simp; (try with_reducible rfl); done)); (try simp only [Act.put, List.setIfInBounds_toArray, List.set_cons_zero, List.set_cons_succ])) | (refine Xr.take 7 (some 59) (v := ?_) rfl rfl (by decide +kernel) (by rfl) ?_ ?_; rotate_left; (focus (intro w' hk; go_simp; (try with_reducible rfl); done)); (try simp only [Act.put, List.setIfInBounds_toArray, List.set_cons_zero, List.set_cons_succ])) | (refine Xr.take 8 (some 60) (v := ?_) rfl rfl (by decide +kernel) (by rfl) ?_ ?_; rotate_left; (focus (intro w' hk; go_simp; (try with_reducible rfl); done)); (try simp only [Act.put, List.setIfInBounds_toArray, List.set_cons_zero, List.set_cons_succ])) | (refine Xr.take 11 (some 8) (v := ?_) rfl rfl (by decide +kernel) (by rfl) ?_ ?_; rotate_left; (focus (intro w' hk; go_simp; (try with_reducible rfl); done)); (try simp only [Act.put, List.setIfInBounds_toArray, List.set_cons_zero, List.set_cons_succ])))
  refine Xr.done (by decide +kernel) (fun w8 hE8 hK8 => ?_)
  have X8 := hK8.nil
  replace x1 := x1.trans X8
  replace b1 := b1.ext X8
  replace hDw := hDw.ext X8
  clear kd2 kk0 kk1 hlk d0 d1 d2 d0f d1f d2f dz k0 k1 k0f k1f kz s0 s1 s2 s3 s4 s5 t0 t1 t2 t3 t4 t5 hE8 hK8 hB hE7 hK7
  have p0 := b1.cell 0
  have p1 := b1.cell 1
  simp only [List.getElem?_toArray, List.getElem?_cons_succ, List.getElem?_cons_zero] at p0 p1
  obtain ⟨d0, d1, d2, d0f, d1f, d2f, dz⟩ := hDw.blk.c3
  have kp0 := fun (w' : World) (h : Kp [] w8 w') => h.cell p0 (by simp)
  have kp1 := fun (w' : World) (h : Kp [] w8 w') => h.cell p1 (by simp)
  have kd1 := fun (w' : World) (h : Kp [] w8 w') => h.cell d1 (by simp)
  have hlk : ∀ W', Kp [] w8 W' → (Instr.lookup 86 (.map (some m1)) (.int .i64 xc) false).run Try.prog W' = .ok (.int .i64 (nxOf nx xc)) W' := fun W' h => by
    have := ((hDw.next.ext h.nil).look klawInt Try.underlying86 (zInt _) xc).1
    rw [nx_look] at this; exact this
  generalize nxOf nx xc = v at *
  obtain ⟨es2, clk2, hes2, hsz2⟩ := hDw.held.len
  have hge' : ¬ xn < v := by omega
  have hgeB : decide (xn < v) = false := by simpa using hge'
  have hlaI : (ap.length : Int) < 4096 := by omega
  have hcapA := OwnS.caps hD.own
  go_wp2_with fail
  refine Xr.start [] (by kernel_rfl) ?_
  repeat (first | (refine Xr.take 0 (some 61) (v := ?_) rfl rfl (by decide +kernel) (by rfl) ?_ ?_; rotate_left; (focus (intro w' hk; go_simp; (try with_reducible rfl); done)); (try simp only [Act.put, List.setIfInBounds_toArray, List.set_cons_zero, List.set_cons_succ])) | (refine Xr.take 1 (some 62) (v := ?_) rfl rfl (by decide +kernel) (by rfl) ?_ ?_; rotate_left; (focus (intro w' hk; go_simp; (try with_reducible rfl); done)); (try simp only [Act.put, List.setIfInBounds_toArray, List.set_cons_zero, List.set_cons_succ])) | (refine Xr.take 2 (some 63) (v := ?_) rfl rfl (by decide +kernel) (by rfl) ?_ ?_; rotate_left; (focus (intro w' hk; go_simp; (try with_reducible rfl); done)); (try simp only [Act.put, List.setIfInBounds_toArray, List.set_cons_zero, List.set_cons_succ])) | (refine Xr.skip 2 (some 63) rfl rfl (by decide +kernel) (by rfl) ?_; (try simp only [Act.put, List.setIfInBounds_toArray, List.set_cons_zero, List.set_cons_succ])) | (refine Xr.take 3 (some 64) (v := ?_) rfl rfl (by decide +kernel) (by rfl) ?_ ?_; rotate_left; (focus (intro w' hk; go_simp; (try with_reducible rfl); done)); (try simp only [Act.put, List.setIfInBounds_toArray, List.set_cons_zero, List.set_cons_succ])) | (refine Xr.skip 3 (some 64) rfl rfl (by decide +kernel) (by rfl) ?_; (try simp only [Act.put, List.setIfInBounds_toArray, List.set_cons_zero, List.set_cons_succ])) | (refine Xr.take 4 (some 65) (v := ?_) rfl rfl (by decide +kernel) (by rfl) ?_ ?_; rotate_left; (focus (intro w' hk; go_simp; (try with_reducible rfl); done)); (try simp only [Act.put, List.setIfInBounds_toArray, List.set_cons_zero, List.set_cons_succ])) | (refine Xr.skip 4 (some 65) rfl rfl (by decide +kernel) (by rfl) ?_; (try simp only [Act.put, List.setIfInBounds_toArray, List.set_cons_zero, List.set_cons_succ])) | (refine Xr.take 5 (some 66) (v := ?_) rfl rfl (by decide +kernel) (by rfl) ?_ ?_; rotate_left; (focus (intro w' hk; go_simp; (try with_reducible rfl); done)); (try simp only [Act.put, List.setIfInBounds_toArray, List.set_cons_zero, List.set_cons_succ])) | (refine Xr.skip 5 (some 66) rfl rfl (by decide +kernel) (by rfl) ?_; (try simp only [Act.put, List.setIfInBounds_toArray, List.set_cons_zero, List.set_cons_succ])) | (refine Xr.take 6 (some 67) (v := ?_) rfl rfl (by decide +kernel) (by rfl) ?_ ?_; rotate_left; (focus (intro w' hk; go_simp; (try with_reducible rfl); done)); (try simp only [Act.put, List.setIfInBounds_toArray, List.set_cons_zero, List.set_cons_succ])) | (refine Xr.skip 6 (some 67) rfl rfl (by decide +kernel) (by rfl) ?_; (try simp only [Act.put, List.setIfInBounds_toArray, List.set_cons_zero, List.set_cons_succ])) | (refine Xr.take 7 (some 68) (v := ?_) rfl rfl (by decide +kernel) (by rfl) ?_ ?_; rotate_left; (focus (intro w' hk; go_simp; (try with_reducible rfl); done)); (try simp only [Act.put, List.setIfInBounds_toArray, List.set_cons_zero, List.set_cons_succ])) | (refine Xr.skip 7 (some 68) rfl rfl (by decide +kernel) (by rfl) ?_; (try simp only [Act.put, List.setIfInBounds_toArray, List.set_cons_zero, List.set_cons_succ])) | (refine Xr.take 8 (some 69) (v := ?_) rfl rfl (by decide +kernel) (by rfl) ?_ ?_; rotate_left; (focus (intro w' hk; go_simp; (try with_reducible rfl); done)); (try simp only [Act.put, List.setIfInBounds_toArray, List.set_cons_zero, List.set_cons_succ])) | (refine Xr.skip 8 (some 69) rfl rfl (by decide +kernel) (by rfl) ?_; (try simp only [Act.put, List.setIfInBounds_toArray, List.set_cons_zero, List.set_cons_succ])) | (refine Xr.take 9 (some 70) (v := ?_) rfl rfl (by decide +kernel) (by rfl) ?_ ?_; rotate_left; (focus (intro w' hk; go_simp; (try with_reducible rfl); done)); (try simp only [Act.put, List.setIfInBounds_toArray, List.set_cons_zero, List.set_cons_succ])) | (refine Xr.skip 9 (some 70) rfl rfl (by decide +kernel) (by rfl) ?_; (try simp only [Act.put, List.setIfInBounds_toArray, List.set_cons_zero, List.set_cons_succ])) | (refine Xr.take 10 (some 71) (v := ?_) rfl rfl (by decide +kernel) (by rfl) ?_ ?_; rotate_left; (focus (intro w' hk; go_simp; (try with_reducible rfl); done)); (try simp only [Act.put, List.setIfInBounds_toArray, List.set_cons_zero, List.set_cons_succ])) | (refine Xr.skip 10 (some 71) rfl rfl (by decide +kernel) (by rfl) ?_; (try simp only [Act.put, List.setIfInBounds_toArray, List.set_cons_zero, List.set_cons_succ])) | (refine Xr.take 11 (some 72) (v := ?_) rfl rfl (by decide +kernel) (by rfl) ?_ ?_; rotate_left; (focus (intro w' hk; go_simp; (try with_reducible rfl); done)); (try simp only [Act.put, List.setIfInBounds_toArray, List.set_cons_zero, List.set_cons_succ])) | (refine Xr.skip 11 (some 72) rfl rfl (by decide +kernel) (by rfl) ?_; (try simp only [Act.put, List.setIfInBounds_toArray, List.set_cons_zero, List.set_cons_succ])) | (refine Xr.take 12 (some 73) (v := ?_) rfl rfl (by decide +kernel) (by rfl) ?_ ?_; rotate_left; (focus (intro w' hk; go_simp; (try with_reducible rfl); done)); (try simp only [Act.put, List.setIfInBounds_toArray, List.set_cons_zero, List.set_cons_succ])))
  refine Xr.done (by decide +kernel) (fun w9 hE9 hK9 => ?_)
  have X9 := hK9.nil
  clear kp0 kp1 kd1 hlk d0 d1 d2 d0f d1f d2f dz p0 p1 hE9 hK9
  replace x1 := x1.trans X9
  replace b1 := b1.ext X9
  replace b6 := b6.ext (X8.trans X9)
  replace hDw := hDw.ext X9
  obtain ⟨d0, d1, d2, d0f, d1f, d2f, dz⟩ := hDw.blk.c3
  replace hes2 := (X9.block m2 (Array.getElem?_eq_some_iff.1 hes2).1).trans hes2
  have p5 := b1.cell 5
  simp only [List.getElem?_toArray, List.getElem?_cons_succ, List.getElem?_cons_zero] at p5
  have hszI : (es2.size : Int) < 256 := by omega
  have hlen := run_len_at (P := Try.prog) (ty := 3) Try.underlying87 hes2
  have hxs : xs.length ≤ 65536 := by have := formed_t H7.out; simpa using this.2.2.2.2.1
  have HC := Lib.hid (clone_any A0 c0 xs w9 (hl.ext x1) (by omega))
  clear hxs
  go_wp2_with fail
  refine HC.out.mono ?_
  rintro e w10 ⟨B, d, rfl, iB, x10, hfr⟩
  have HFR := Lib.hid (show ∀ b, B.map (·.block) = some b → w.heap.size ≤ b from fun b hb => Nat.le_trans x1.size (hfr b hb))
  have hzz := b1.lt
  replace b1 := b1.ext x10
  replace b6 := b6.ext x10
  replace hDw := hDw.ext x10
  replace x1 := x1.trans x10
  clear hlen hes2 hszI hsz2 d0 d1 d2 d0f d1f d2f dz p5 HC
  have p5 := b1.cell 5
  have p5f := b1.frz 5
  have pz := b1.lt
  simp only [List.getElem?_toArray, List.getElem?_cons_succ, List.getElem?_cons_zero] at p5
  go_wp2_with fail
  replace b1 := b1.set 5 (.slice B xs.length d)
  simp only [List.setIfInBounds_toArray, List.set_cons_zero, List.set_cons_succ] at b1
  have hb6 := b6.far (p := ⟨w.heap.size, 5, none⟩) (by simp only; omega) (.slice B xs.length d)
  have iB2 := iB.setOld hfr (p := ⟨w.heap.size, 5, none⟩) hzz (.slice B xs.length d)
  have X10 := x1.setNew (p := ⟨w.heap.size, 5, none⟩) (Nat.le_refl _) (.slice B xs.length d)
  generalize w10.setCell ⟨w.heap.size, 5, none⟩ (.slice B xs.length d) = W at *
  clear p5 p5f pz hDw b6 iB x1
  have hDw := hD.ext X10
  have T0 : TkI W base w.heap.size g m1 m2 A c ⟨ap, nx, hd⟩ none 0 [] :=
    ⟨hDw, hok, hbd, by simp only; omega, OwnS.nil _ _ _ _, by simp, fun _ _ _ _ _ => by simp [Off], by simp [Off], by simp⟩
  obtain ⟨d0, d1, d2, d0f, d1f, d2f, dz⟩ := hDw.blk.c3
  obtain ⟨k0, k1, k0f, k1f, kz⟩ := hb6.c2
  have p0 := b1.cell 0
  have p1 := b1.cell 1
  have p2 := b1.cell 2
  have p3 := b1.cell 3
  have p4 := b1.cell 4
  have p5 := b1.cell 5
  simp only [List.getElem?_toArray, List.getElem?_cons_succ, List.getElem?_cons_zero] at p0 p1 p2 p3 p4 p5
  have hm2 := hD.held.lt
  have n1 : g ∉ [m2] := by have := hDw.held.ne hDw.blk; simp; exact fun e => this e.symm
  have n2 : w1.heap.size ∉ [m2] := by simp; omega
  have n3 : w.heap.size ∉ [m2] := by simp; omega
  have kd2 := fun (w' : World) (h : Kp [m2] W w') => h.cell d2 n1
  have kk0 := fun (w' : World) (h : Kp [m2] W w') => h.cell k0 n2
  have kk1 := fun (w' : World) (h : Kp [m2] W w') => h.cell k1 n2
  have kp0 := fun (w' : World) (h : Kp [m2] W w') => h.cell p0 n3
  have kp1 := fun (w' : World) (h : Kp [m2] W w') => h.cell p1 n3
  have kp2 := fun (w' : World) (h : Kp [m2] W w') => h.cell p2 n3
  have kp3 := fun (w' : World) (h : Kp [m2] W w') => h.cell p3 n3
  have kp4 := fun (w' : World) (h : Kp [m2] W w') => h.cell p4 n3
  have kp5 := fun (w' : World) (h : Kp [m2] W w') => h.cell p5 n3
  refine Xr.start [m2] (by kernel_rfl) ?_
  repeat (first | (refine Xr.take 0 (some 94) (v := ?_) rfl rfl (by decide +kernel) (by rfl) ?_ ?_; rotate_left; (focus (intro w' hk; go_simp; (try with_reducible rfl); done)); (try simp only [Act.put, List.setIfInBounds_toArray, List.set_cons_zero, List.set_cons_succ])) | (refine Xr.take 1 (some 95) (v := ?_) rfl rfl (by decide +kernel) (by rfl) ?_ ?_; rotate_left; (focus (intro w' hk; go_simp; (try with_reducible rfl); done)); (try simp only [Act.put, List.setIfInBounds_toArray, List.set_cons_zero, List.set_cons_succ])) | (refine Xr.take 2 (some 96) (v := ?_) rfl rfl (by decide +kernel) (by rfl) ?_ ?_; rotate_left; (focus (intro w' hk; go_simp; (try with_reducible rfl); done)); (try simp only [Act.put, List.setIfInBounds_toArray, List.set_cons_zero, List.set_cons_succ])) | (refine Xr.take 3 (some 97) (v := ?_) rfl rfl (by decide +kernel) (by rfl) ?_ ?_; rotate_left; (focus (intro w' hk; go_simp; (try with_reducible rfl); done)); (try simp only [Act.put, List.setIfInBounds_toArray, List.set_cons_zero, List.set_cons_succ])) | (refine Xr.take 4 (some 98) (v := ?_) rfl rfl (by decide +kernel) (by rfl) ?_ ?_; rotate_left; (focus (intro w' hk; go_simp; (try with_reducible rfl); done)); (try simp only [Act.put, List.setIfInBounds_toArray, List.set_cons_zero, List.set_cons_succ])) | (refine Xr.take 5 (some 99) (v := ?_) rfl rfl (by decide +kernel) (by rfl) ?_ ?_; rotate_left; (focus (intro w' hk; go_simp; (try with_reducible rfl); done)); (try simp only [Act.put, List.setIfInBounds_toArray, List.set_cons_zero, List.set_cons_succ])))
  refine Xr.step 6 rfl (by decide +kernel) (by rfl) (fun w11 hE11 hK11 K hKK => ?_)
  refine wp_put _ _ _ rfl klawKey Try.underlying87 (hDw.held.ext hE11) (xc, xn) (⟨⟨xc, xn, xb, ⟨xa, xd, xs⟩⟩, B, d⟩ : Hv) rfl rfl rfl ?_
  rw [putL_new HT.out]
  intro w12 hM12 hk12
  refine hKK _ _ (WI_kp hk12 (fun i hi => by simp [hi])) (hK11.kpP hk12 (fun i hi => by simp [hi])) ?_
  clear hKK
  (try simp only [Act.put, List.setIfInBounds_toArray, List.set_cons_zero, List.set_cons_succ])
  repeat (first | (refine Xr.take 0 (some 94) (v := ?_) rfl rfl (by decide +kernel) (by rfl) ?_ ?_; rotate_left; (focus (intro w' hk; go_simp; (try with_reducible rfl); done)); (try simp only [Act.put, List.setIfInBounds_toArray, List.set_cons_zero, List.set_cons_succ])) | (refine Xr.take 1 (some 95) (v := ?_) rfl rfl (by decide +kernel) (by rfl) ?_ ?_; rotate_left; (focus (intro w' hk; go_simp; (try with_reducible rfl); done)); (try simp only [Act.put, List.setIfInBounds_toArray, List.set_cons_zero, List.set_cons_succ])) | (refine Xr.take 2 (some 96) (v := ?_) rfl rfl (by decide +kernel) (by rfl) ?_ ?_; rotate_left; (focus (intro w' hk; go_simp; (try with_reducible rfl); done)); (try simp only [Act.put, List.setIfInBounds_toArray, List.set_cons_zero, List.set_cons_succ])) | (refine Xr.take 3 (some 97) (v := ?_) rfl rfl (by decide +kernel) (by rfl) ?_ ?_; rotate_left; (focus (intro w' hk; go_simp; (try with_reducible rfl); done)); (try simp only [Act.put, List.setIfInBounds_toArray, List.set_cons_zero, List.set_cons_succ])) | (refine Xr.take 4 (some 98) (v := ?_) rfl rfl (by decide +kernel) (by rfl) ?_ ?_; rotate_left; (focus (intro w' hk; go_simp; (try with_reducible rfl); done)); (try simp only [Act.put, List.setIfInBounds_toArray, List.set_cons_zero, List.set_cons_succ])) | (refine Xr.take 5 (some 99) (v := ?_) rfl rfl (by decide +kernel) (by rfl) ?_ ?_; rotate_left; (focus (intro w' hk; go_simp; (try with_reducible rfl); done)); (try simp only [Act.put, List.setIfInBounds_toArray, List.set_cons_zero, List.set_cons_succ])))
  refine Xr.done (by decide +kernel) (fun w13 hE13 hK13 => ?_)
  have T1 := ((T0.ext hE11).putHd hk12 (it := ⟨xc, xn, xb, ⟨xa, xd, xs⟩⟩) hM12 ⟨h1, h2, h3, h4, h5, h6, H7.out⟩ (iB2.ext hE11) (fun hx b hb => by
    have hb' := hfr b hb
    refine ⟨?_, ?_, by simp [Off]⟩
    · have := hD.blk.lt; omega
    · intro e; have := (OwnS.blt hD.own e).1; omega) (by simp only; omega)).ext hE13
  have hkp : KpP (ownB g m1 m2 A) w w13 := (KpP.of_ext X10).trans (KpP.kp hK13 (fun i hi => by simp at hi; exact .inr (.inr (.inl hi))))
  clear kd2 kk0 kk1 kp0 kp1 kp2 kp3 kp4 kp5 p0 p1 p2 p3 p4 p5 k0 k1 k0f k1f kz d0 d1 d2 d0f d1f d2f dz T0 hM12 hk12 hE11 hE13 hK11 hK13 hb6 b1 iB2 hDw X10
  simp only at T1
  generalize hs0 : (⟨ap, nx, hd ++ [((xc, xn), ⟨⟨xc, xn, xb, ⟨xa, xd, xs⟩⟩, B, d⟩)]⟩ : Ds) = s0 at *
  have HS0 := Lib.hid hs0
  have HS0z := Lib.hid (show s0.ap.length + s0.hd.length ≤ 4400 by rw [← hs0]; simp; omega)
  clear hs0
  go_wp2_with fail
  go_loopg [9] s0.hd.length (fun k l wr => ∃ (A' : Option Addr) (c' : Nat) (s : Ds) (L : Option Addr) (cl : Nat) (out : List Oe), s.hd.length ≤ k ∧ l = .slice L out.length cl ∧ s.ap.length + s.hd.length ≤ 4400 ∧ out.length ≤ s.ap.length ∧ Hid (Steps s0 out s) ∧ TkI wr base w.heap.size g m1 m2 A' c' s L cl out ∧
    KpP (ownB g m1 m2 A) w wr ∧ Hid (∀ b, A'.map (·.block) = some b → A.map (·.block) = some b ∨ w.heap.size ≤ b))
  case atStart => exact ⟨A, c, s0, none, 0, [], Nat.le_refl _, rfl, HS0z.out, by simp, Steps.refl _, T1, hkp, fun b hb => .inl hb⟩
  case round =>
    clear T1 hkp
    obtain ⟨A', c', s, L, cl, out, hsk, rfl, hsm, hol, hst, T, hkp, hA'⟩ := hrel
    go_wp2_with fail
    refine (ready_any base g m1 m2 A' c' s.ap s.nx s.hd wr T.desk).mono ?_
    rintro e w20 ⟨⟨⟨yc, yn, yb, ⟨ya, yd, ys⟩⟩, yA, yk⟩, f, rfl, x20, hyes, hnone⟩
    simp only [hvV, itV]
    have T20 := T.ext x20
    cases f with
    | false =>
      have HNO := Lib.hid (hnone rfl)
      clear hnone
      go_wp2_with fail
      refine bodyPost_ret (v := .tuple #[.slice L out.length cl, .int .i64 0]) (by simp [results, Try.results19, go_sem]) rfl
        ⟨B, d, L, cl, out, A', c', s, rfl, ?_, HNO.out, T20.ext (Ext.alloc _ _), (hkp.trans (KpP.of_ext x20)).trans (KpP.of_ext (Ext.alloc _ _)), hA'.out, HFR.out⟩
      have := hst.out
      rw [← HS0.out] at this
      exact this
    | true =>
      have hpx : ((yc, yn), ⟨⟨yc, yn, yb, ⟨ya, yd, ys⟩⟩, yA, yk⟩) ∈ s.hd ∧ isRdy s.nx s.ap.length ((yc, yn), ⟨⟨yc, yn, yb, ⟨ya, yd, ys⟩⟩, yA, yk⟩) ∧ ∀ q ∈ s.hd, isRdy s.nx s.ap.length q → yc ≤ q.1.1 := by
        obtain ⟨p, hp, hph, hpr, hmin⟩ := hyes rfl
        have hpe : p = ((yc, yn), ⟨⟨yc, yn, yb, ⟨ya, yd, ys⟩⟩, yA, yk⟩) := by
          have h1 := (T.desk.il p hp).1
          rw [hph] at h1
          exact Prod.ext h1 hph
        subst hpe
        exact ⟨hp, hpr, hmin⟩
      have HPX := Lib.hid hpx
      have hio := T.ok _ hpx.1
      have hbs := hpx.2.1.2
      have hfl := Lib.hid (filter_less hpx.1 hsk)
      simp only at hbs
      obtain ⟨j1, j2, j3, j4, j5, j6, j7⟩ := hio
      simp only at j1 j2 j3 j4 j5 j6 j7
      have hf7 := formed_t j7
      have hcap' := OwnS.caps T.desk.own
      have hsum := T.sum
      have hiy := Lib.hid (T.desk.il _ hpx.1)
      have hiL := Lib.hid (T.hil _ hpx.1)
      have hyl : ys.length ≤ 65536 := by simpa using hf7.2.2.2.2.1
      have hya : 0 ≤ ya ∧ ya ≤ 65536 ∧ 0 ≤ yd ∧ yd ≤ 65536 := ⟨hf7.1, hf7.2.1, hf7.2.2.1, hf7.2.2.2.1⟩
      have hkn : yb.toNat ≤ s.ap.length := by omega
      have hqb := overAll_bd (B := 65536) (by omega) (s.ap.drop yb.toNat) (ya, yd) 131072 ⟨hya.1, hya.2.2.1⟩ (by simp only; omega) (fun y hy => by
        have := T.bd y (List.mem_of_mem_drop hy); exact ⟨this.1, this.2.1, this.2.2.1, this.2.2.2.2⟩)
      have hul : (s.ap.drop yb.toNat).length = s.ap.length - yb.toNat := by simp
      have hXL : XL wr (if c' = yb.toNat then A' else Option.map (fun x => x.add (yb.toNat * 3)) A') (c' - yb.toNat) (s.ap.drop yb.toNat) := by
        have hx0 := XL.of_own T.desk.own
        split
        · next hc =>
          have h1 := hx0.drop_end (k := yb.toNat) hc
          rw [hc, Nat.sub_self]; exact h1
        · exact hx0.drop hkn
      have hlen : (s.ap.drop yb.toNat).length ≤ 5000 := by rw [hul]; omega
      have HOV := fun (W' : World) (h : Ext wr W') => Lib.hid (over_any ya yd (ys.length : Int) _ _ (s.ap.drop yb.toNat) W' (hXL.ext h) 65536 (by omega) (by omega) ⟨hya.1, hya.2.2.1⟩ (by omega) (fun y hy => by
        have := T.bd y (List.mem_of_mem_drop hy); exact ⟨this.1, this.2.1, this.2.2.1, by omega, this.2.2.2.2⟩))
      rw [hul] at HOV hqb
      obtain ⟨⟨o1, o2⟩, hq⟩ : ∃ q : Int × Int, q = overAll (ya, yd) (s.ap.drop yb.toNat) := ⟨_, rfl⟩
      rw [← hq] at HOV hqb
      have HQ := Lib.hid hq
      simp only at HOV hqb
      have hqb3 : o1 + o2 ≤ 1099511627776 := by omega
      have hqb1 := hqb.1
      have hqb2 := hqb.2.1
      have HEX := fun (W' : World) => Lib.hid (extentOf_any ya yd yA ys.length yk W' (by unfold Sm; omega))
      clear hq hXL hpx hyes hnone hul hqb hlen j7 hf7
      obtain ⟨b10, x21⟩ := alloc1 w20 39 #[.int .i64 yc, .int .i64 yn, .int .i64 yb, .int .i64 ya, .int .i64 yd, .slice yA ys.length yk]
      have hwr0 := x20.size
      have hz10 : w20.heap.size < (w20.alloc (.cells #[.int .i64 yc, .int .i64 yn, .int .i64 yb, .int .i64 ya, .int .i64 yd, .slice yA ys.length yk] 39)).heap.size := by simp
      go_wp2_with fail
      replace x20 := x20.trans x21
      have T21 := T.ext x20
      generalize w20.alloc (.cells #[.int .i64 yc, .int .i64 yn, .int .i64 yb, .int .i64 ya, .int .i64 yd, .slice yA ys.length yk] 39) = W21 at *
      clear x21 T20
      obtain ⟨d0, d1, d2, d0f, d1f, d2f, dz⟩ := T21.desk.blk.c3
      have i2 := b10.cell 2
      have i3 := b10.cell 3
      have i4 := b10.cell 4
      have i5 := b10.cell 5
      simp only [List.getElem?_toArray, List.getElem?_cons_succ, List.getElem?_cons_zero] at i2 i3 i4 i5
      have kd0 := fun (w' : World) (h : Kp [] W21 w') => h.cell d0 (by simp)
      have ki2 := fun (w' : World) (h : Kp [] W21 w') => h.cell i2 (by simp)
      have ki3 := fun (w' : World) (h : Kp [] W21 w') => h.cell i3 (by simp)
      have ki4 := fun (w' : World) (h : Kp [] W21 w') => h.cell i4 (by simp)
      have ki5 := fun (w' : World) (h : Kp [] W21 w') => h.cell i5 (by simp)
      have hci : (s.ap.length : Int) ≤ c' := by omega
      have hbc : yb ≤ (c' : Int) := by omega
      refine Xr.start [] (by kernel_rfl) ?_
      repeat (first | (refine Xr.take 0 (some 108) (v := ?_) rfl rfl (by decide +kernel) (by rfl) ?_ ?_; rotate_left; (focus (intro w' hk; go_simp; (try with_reducible rfl); done)); (try simp only [Act.put, List.setIfInBounds_toArray, List.set_cons_zero, List.set_cons_succ])) | (refine Xr.take 1 (some 109) (v := ?_) rfl rfl (by decide +kernel) (by rfl) ?_ ?_; rotate_left; (focus (intro w' hk; go_simp; (try with_reducible rfl); done)); (try simp only [Act.put, List.setIfInBounds_toArray, List.set_cons_zero, List.set_cons_succ])) | (refine Xr.take 3 (some 111) (v := ?_) rfl rfl (by decide +kernel) (by rfl) ?_ ?_; rotate_left; (focus (intro w' hk; go_simp; (try with_reducible rfl); done)); (try simp only [Act.put, List.setIfInBounds_toArray, List.set_cons_zero, List.set_cons_succ])) | (refine Xr.take 4 (some 112) (v := ?_) rfl rfl (by decide +kernel) (by rfl) ?_ ?_; rotate_left; (focus (intro w' hk; go_simp; (try with_reducible rfl); done)); (try simp only [Act.put, List.setIfInBounds_toArray, List.set_cons_zero, List.set_cons_succ])) | (refine Xr.take 5 (some 113) (v := ?_) rfl rfl (by decide +kernel) (by rfl) ?_ ?_; rotate_left; (focus (intro w' hk; go_simp; (try with_reducible rfl); done)); (try simp only [Act.put, List.setIfInBounds_toArray, List.set_cons_zero, List.set_cons_succ])) | (refine Xr.take 6 (some 114) (v := ?_) rfl rfl (by decide +kernel) (by rfl) ?_ ?_; rotate_left; (focus (intro w' hk; go_simp; (try with_reducible rfl); done)); (try simp only [Act.put, List.setIfInBounds_toArray, List.set_cons_zero, List.set_cons_succ])) | (refine Xr.take 7 (some 115) (v := ?_) rfl rfl (by decide +kernel) (by rfl) ?_ ?_; rotate_left; (focus (intro w' hk; go_simp; (try with_reducible rfl); done)); (try simp only [Act.put, List.setIfInBounds_toArray, List.set_cons_zero, List.set_cons_succ])) | (refine Xr.take 8 (some 116) (v := ?_) rfl rfl (by decide +kernel) (by rfl) ?_ ?_; rotate_left; (focus (intro w' hk; go_simp; (try with_reducible rfl); done)); (try simp only [Act.put, List.setIfInBounds_toArray, List.set_cons_zero, List.set_cons_succ])) | (refine Xr.take 9 (some 117) (v := ?_) rfl rfl (by decide +kernel) (by rfl) ?_ ?_; rotate_left; (focus (intro w' hk; go_simp; (try with_reducible rfl); done)); (try simp only [Act.put, List.setIfInBounds_toArray, List.set_cons_zero, List.set_cons_succ])))
      refine Xr.lazy 11 12 12 (fun g => .pointer (some ⟨g, 0, none⟩)) 81 #[.int .i64 0, .int .i64 0, .int .i64 0] rfl (by simp) (by decide +kernel) (by simp) (fun w' => by go_simp) ?_
      refine Xr.call 2 rfl (by decide +kernel) (by rfl) (fun w22 hE22 hK22 K hKK => ?_)
      go_simp
      refine (HEX _).out.mono ?_
      rintro e w23 ⟨rfl, hx23⟩
      refine hKK _ _ hx23 ?_
      clear hKK
      (try simp only [Act.put, List.setIfInBounds_toArray, List.set_cons_zero, List.set_cons_succ])
      repeat (first | (refine Xr.take 0 (some 108) (v := ?_) rfl rfl (by decide +kernel) (by rfl) ?_ ?_; rotate_left; (focus (intro w' hk; go_simp; (try with_reducible rfl); done)); (try simp only [Act.put, List.setIfInBounds_toArray, List.set_cons_zero, List.set_cons_succ])) | (refine Xr.take 1 (some 109) (v := ?_) rfl rfl (by decide +kernel) (by rfl) ?_ ?_; rotate_left; (focus (intro w' hk; go_simp; (try with_reducible rfl); done)); (try simp only [Act.put, List.setIfInBounds_toArray, List.set_cons_zero, List.set_cons_succ])) | (refine Xr.take 3 (some 111) (v := ?_) rfl rfl (by decide +kernel) (by rfl) ?_ ?_; rotate_left; (focus (intro w' hk; go_simp; (try with_reducible rfl); done)); (try simp only [Act.put, List.setIfInBounds_toArray, List.set_cons_zero, List.set_cons_succ])) | (refine Xr.take 4 (some 112) (v := ?_) rfl rfl (by decide +kernel) (by rfl) ?_ ?_; rotate_left; (focus (intro w' hk; go_simp; (try with_reducible rfl); done)); (try simp only [Act.put, List.setIfInBounds_toArray, List.set_cons_zero, List.set_cons_succ])) | (refine Xr.take 5 (some 113) (v := ?_) rfl rfl (by decide +kernel) (by rfl) ?_ ?_; rotate_left; (focus (intro w' hk; go_simp; (try with_reducible rfl); done)); (try simp only [Act.put, List.setIfInBounds_toArray, List.set_cons_zero, List.set_cons_succ])) | (refine Xr.take 6 (some 114) (v := ?_) rfl rfl (by decide +kernel) (by rfl) ?_ ?_; rotate_left; (focus (intro w' hk; go_simp; (try with_reducible rfl); done)); (try simp only [Act.put, List.setIfInBounds_toArray, List.set_cons_zero, List.set_cons_succ])) | (refine Xr.take 7 (some 115) (v := ?_) rfl rfl (by decide +kernel) (by rfl) ?_ ?_; rotate_left; (focus (intro w' hk; go_simp; (try with_reducible rfl); done)); (try simp only [Act.put, List.setIfInBounds_toArray, List.set_cons_zero, List.set_cons_succ])) | (refine Xr.take 8 (some 116) (v := ?_) rfl rfl (by decide +kernel) (by rfl) ?_ ?_; rotate_left; (focus (intro w' hk; go_simp; (try with_reducible rfl); done)); (try simp only [Act.put, List.setIfInBounds_toArray, List.set_cons_zero, List.set_cons_succ])) | (refine Xr.take 9 (some 117) (v := ?_) rfl rfl (by decide +kernel) (by rfl) ?_ ?_; rotate_left; (focus (intro w' hk; go_simp; (try with_reducible rfl); done)); (try simp only [Act.put, List.setIfInBounds_toArray, List.set_cons_zero, List.set_cons_succ])))
      refine Xr.call 10 rfl (by decide +kernel) (by rfl) (fun w24 hE24 hK24 K hKK => ?_)
      go_simp
      refine (HOV _ (x20.trans hK24.nil)).out.mono ?_
      rintro e w25 ⟨rfl, hx25⟩
      refine hKK _ _ hx25 ?_
      clear hKK
      (try simp only [Act.put, List.setIfInBounds_toArray, List.set_cons_zero, List.set_cons_succ])
      repeat (first | (refine Xr.take 0 (some 108) (v := ?_) rfl rfl (by decide +kernel) (by rfl) ?_ ?_; rotate_left; (focus (intro w' hk; go_simp; (try with_reducible rfl); done)); (try simp only [Act.put, List.setIfInBounds_toArray, List.set_cons_zero, List.set_cons_succ])) | (refine Xr.take 1 (some 109) (v := ?_) rfl rfl (by decide +kernel) (by rfl) ?_ ?_; rotate_left; (focus (intro w' hk; go_simp; (try with_reducible rfl); done)); (try simp only [Act.put, List.setIfInBounds_toArray, List.set_cons_zero, List.set_cons_succ])) | (refine Xr.take 3 (some 111) (v := ?_) rfl rfl (by decide +kernel) (by rfl) ?_ ?_; rotate_left; (focus (intro w' hk; go_simp; (try with_reducible rfl); done)); (try simp only [Act.put, List.setIfInBounds_toArray, List.set_cons_zero, List.set_cons_succ])) | (refine Xr.take 4 (some 112) (v := ?_) rfl rfl (by decide +kernel) (by rfl) ?_ ?_; rotate_left; (focus (intro w' hk; go_simp; (try with_reducible rfl); done)); (try simp only [Act.put, List.setIfInBounds_toArray, List.set_cons_zero, List.set_cons_succ])) | (refine Xr.take 5 (some 113) (v := ?_) rfl rfl (by decide +kernel) (by rfl) ?_ ?_; rotate_left; (focus (intro w' hk; go_simp; (try with_reducible rfl); done)); (try simp only [Act.put, List.setIfInBounds_toArray, List.set_cons_zero, List.set_cons_succ])) | (refine Xr.take 6 (some 114) (v := ?_) rfl rfl (by decide +kernel) (by rfl) ?_ ?_; rotate_left; (focus (intro w' hk; go_simp; (try with_reducible rfl); done)); (try simp only [Act.put, List.setIfInBounds_toArray, List.set_cons_zero, List.set_cons_succ])) | (refine Xr.take 7 (some 115) (v := ?_) rfl rfl (by decide +kernel) (by rfl) ?_ ?_; rotate_left; (focus (intro w' hk; go_simp; (try with_reducible rfl); done)); (try simp only [Act.put, List.setIfInBounds_toArray, List.set_cons_zero, List.set_cons_succ])) | (refine Xr.take 8 (some 116) (v := ?_) rfl rfl (by decide +kernel) (by rfl) ?_ ?_; rotate_left; (focus (intro w' hk; go_simp; (try with_reducible rfl); done)); (try simp only [Act.put, List.setIfInBounds_toArray, List.set_cons_zero, List.set_cons_succ])) | (refine Xr.take 9 (some 117) (v := ?_) rfl rfl (by decide +kernel) (by rfl) ?_ ?_; rotate_left; (focus (intro w' hk; go_simp; (try with_reducible rfl); done)); (try simp only [Act.put, List.setIfInBounds_toArray, List.set_cons_zero, List.set_cons_succ])))
      refine Xr.stepZ rfl (by decide +kernel) (fun _ => by rfl) (fun w26 g12 hE26 hK26 hg12 hB _ K hKK => ?_)
      (try simp only [Act.put, List.setIfInBounds_toArray, List.set_cons_zero, List.set_cons_succ])
      have m0 := (Blk.c3 hB).1; have m1 := (Blk.c3 hB).2.1; have m2 := (Blk.c3 hB).2.2.1; have m0f := (Blk.c3 hB).2.2.2.1; have m1f := (Blk.c3 hB).2.2.2.2.1; have m2f := (Blk.c3 hB).2.2.2.2.2.1; have mz := (Blk.c3 hB).2.2.2.2.2.2
      go_simp
      refine hKK _ _ (WI_set (WI_set (WI_set (WI_refl _ _ _) _ _) _ _) _ _) (((hK26.setN hg12 _ _).setN hg12 _ _).setN hg12 _ _) ?_
      clear hKK
      (try simp only [Act.put, List.setIfInBounds_toArray, List.set_cons_zero, List.set_cons_succ])
      repeat (first | (refine Xr.take 0 (some 108) (v := ?_) rfl rfl (by decide +kernel) (by rfl) ?_ ?_; rotate_left; (focus (intro w' hk; go_simp; (try with_reducible rfl); done)); (try simp only [Act.put, List.setIfInBounds_toArray, List.set_cons_zero, List.set_cons_succ])) | (refine Xr.take 1 (some 109) (v := ?_) rfl rfl (by decide +kernel) (by rfl) ?_ ?_; rotate_left; (focus (intro w' hk; go_simp; (try with_reducible rfl); done)); (try simp only [Act.put, List.setIfInBounds_toArray, List.set_cons_zero, List.set_cons_succ])) | (refine Xr.take 3 (some 111) (v := ?_) rfl rfl (by decide +kernel) (by rfl) ?_ ?_; rotate_left; (focus (intro w' hk; go_simp; (try with_reducible rfl); done)); (try simp only [Act.put, List.setIfInBounds_toArray, List.set_cons_zero, List.set_cons_succ])) | (refine Xr.take 4 (some 112) (v := ?_) rfl rfl (by decide +kernel) (by rfl) ?_ ?_; rotate_left; (focus (intro w' hk; go_simp; (try with_reducible rfl); done)); (try simp only [Act.put, List.setIfInBounds_toArray, List.set_cons_zero, List.set_cons_succ])) | (refine Xr.take 5 (some 113) (v := ?_) rfl rfl (by decide +kernel) (by rfl) ?_ ?_; rotate_left; (focus (intro w' hk; go_simp; (try with_reducible rfl); done)); (try simp only [Act.put, List.setIfInBounds_toArray, List.set_cons_zero, List.set_cons_succ])) | (refine Xr.take 6 (some 114) (v := ?_) rfl rfl (by decide +kernel) (by rfl) ?_ ?_; rotate_left; (focus (intro w' hk; go_simp; (try with_reducible rfl); done)); (try simp only [Act.put, List.setIfInBounds_toArray, List.set_cons_zero, List.set_cons_succ])) | (refine Xr.take 7 (some 115) (v := ?_) rfl rfl (by decide +kernel) (by rfl) ?_ ?_; rotate_left; (focus (intro w' hk; go_simp; (try with_reducible rfl); done)); (try simp only [Act.put, List.setIfInBounds_toArray, List.set_cons_zero, List.set_cons_succ])) | (refine Xr.take 8 (some 116) (v := ?_) rfl rfl (by decide +kernel) (by rfl) ?_ ?_; rotate_left; (focus (intro w' hk; go_simp; (try with_reducible rfl); done)); (try simp only [Act.put, List.setIfInBounds_toArray, List.set_cons_zero, List.set_cons_succ])) | (refine Xr.take 9 (some 117) (v := ?_) rfl rfl (by decide +kernel) (by rfl) ?_ ?_; rotate_left; (focus (intro w' hk; go_simp; (try with_reducible rfl); done)); (try simp only [Act.put, List.setIfInBounds_toArray, List.set_cons_zero, List.set_cons_succ])))
      refine Xr.done (by decide +kernel) (fun w27 hE27 hK27 => ?_)
      have b12 := (((hB.set 0 (.int .i64 o1)).set 1 (.int .i64 o2)).set 2 (.int .i64 ys.length)).ext hE27
      simp only [List.setIfInBounds_toArray, List.set_cons_zero, List.set_cons_succ] at b12
      have x27 := hK27.nil
      replace b10 := b10.ext x27
      replace T21 := T21.ext x27
      replace x20 := x20.trans x27
      clear kd0 ki2 ki3 ki4 ki5 i2 i3 i4 i5 d0 d1 d2 d0f d1f d2f dz m0 m1 m2 m0f m1f m2f mz hB hE22 hE24 hE26 hE27 hK22 hK24 hK26 hK27 HOV HEX x27 hx23 hx25
      generalize (if c' = yb.toNat then A' else Option.map (fun x => x.add (yb.toNat * 3)) A') = SA
      go_wp2_with fail
      obtain ⟨iX, hX0, hX1, hX2, hX3⟩ := info_parts infoX
      obtain ⟨iE, hE0, hE1, hE2, hE3⟩ := info_parts infoE
      obtain ⟨d0, d1, d2, d0f, d1f, d2f, dz⟩ := T21.desk.blk.c3
      have e0 := (Blk.c3 b12).1; have e1 := (Blk.c3 b12).2.1; have e2 := (Blk.c3 b12).2.2.1; have e0f := (Blk.c3 b12).2.2.2.1; have e1f := (Blk.c3 b12).2.2.2.2.1; have e2f := (Blk.c3 b12).2.2.2.2.2.1; have ez := (Blk.c3 b12).2.2.2.2.2.2
      have hg12b : W21.heap.size ≤ g12 := hg12
      have hwr : wr.heap.size ≤ w20.heap.size := hwr0
      have hgr : g < wr.heap.size := T.desk.blk.lt
      have hAr : ∀ b, A'.map (·.block) = some b → b < wr.heap.size := fun b hb => (OwnS.blt T.desk.own hb).1
      have n12 : g12 ∉ g :: blkL A' := by
        rw [List.mem_cons, mem_blkL]
        rintro (e | e)
        · omega
        · have := hAr _ e; omega
      have n10 : w20.heap.size ∉ g :: blkL A' := by
        rw [List.mem_cons, mem_blkL]
        rintro (e | e)
        · omega
        · have := hAr _ e; omega
      have hLlt : ∀ b ∈ g :: blkL A', b < w27.heap.size := by
        intro b hb
        have := x20.size
        rw [List.mem_cons, mem_blkL] at hb
        rcases hb with e | e
        · omega
        · have := hAr _ e; omega
      have ke0 := fun (w' : World) (h : Kp (g :: blkL A') w27 w') => h.cell e0 n12
      have ke1 := fun (w' : World) (h : Kp (g :: blkL A') w27 w') => h.cell e1 n12
      have ke2 := fun (w' : World) (h : Kp (g :: blkL A') w27 w') => h.cell e2 n12
      refine Xr.start (g :: blkL A') (by kernel_rfl) ?_
      repeat (first | (refine Xr.take 0 (some 119) (v := ?_) rfl rfl (by decide +kernel) (by rfl) ?_ ?_; rotate_left; (focus (intro w' hk; go_simp; (try with_reducible rfl); done)); (try simp only [Act.put, List.setIfInBounds_toArray, List.set_cons_zero, List.set_cons_succ])) | (refine Xr.take 1 (some 120) (v := ?_) rfl rfl (by decide +kernel) (by rfl) ?_ ?_; rotate_left; (focus (intro w' hk; go_simp; (try with_reducible rfl); done)); (try simp only [Act.put, List.setIfInBounds_toArray, List.set_cons_zero, List.set_cons_succ])) | (refine Xr.take 2 (some 121) (v := ?_) rfl rfl (by decide +kernel) (by rfl) ?_ ?_; rotate_left; (focus (intro w' hk; go_simp; (try with_reducible rfl); done)); (try simp only [Act.put, List.setIfInBounds_toArray, List.set_cons_zero, List.set_cons_succ])) | (refine Xr.take 3 (some 122) (v := ?_) rfl rfl (by decide +kernel) (by rfl) ?_ ?_; rotate_left; (focus (intro w' hk; go_simp; (try with_reducible rfl); done)); (try simp only [Act.put, List.setIfInBounds_toArray, List.set_cons_zero, List.set_cons_succ])) | (refine Xr.take 4 (some 123) (v := ?_) rfl rfl (by decide +kernel) (by rfl) ?_ ?_; rotate_left; (focus (intro w' hk; go_simp; (try with_reducible rfl); done)); (try simp only [Act.put, List.setIfInBounds_toArray, List.set_cons_zero, List.set_cons_succ])) | (refine Xr.take 5 (some 124) (v := ?_) rfl rfl (by decide +kernel) (by rfl) ?_ ?_; rotate_left; (focus (intro w' hk; go_simp; (try with_reducible rfl); done)); (try simp only [Act.put, List.setIfInBounds_toArray, List.set_cons_zero, List.set_cons_succ])) | (refine Xr.take 8 (some 127) (v := ?_) rfl rfl (by decide +kernel) (by rfl) ?_ ?_; rotate_left; (focus (intro w' hk; go_simp; (try with_reducible rfl); done)); (try simp only [Act.put, List.setIfInBounds_toArray, List.set_cons_zero, List.set_cons_succ])) | (refine Xr.take 9 (some 128) (v := ?_) rfl rfl (by decide +kernel) (by rfl) ?_ ?_; rotate_left; (focus (intro w' hk; go_simp; (try with_reducible rfl); done)); (try simp only [Act.put, List.setIfInBounds_toArray, List.set_cons_zero, List.set_cons_succ])))
      refine Xr.lazy 6 125 7 (fun g => .slice (some ⟨g, 0, none⟩) 1 1) 81 #[.int .i64 o1, .int .i64 o2, .int .i64 ys.length] rfl hLlt (by decide +kernel) (by simp) (fun w' => by go_simp) ?_
      refine Xr.step 4 rfl (by decide +kernel) (by rfl) (fun w28 hE28 hK28 K hKK => ?_)
      have q0 := hE28.cell d0
      go_simp
      refine hKK _ _ (WI_refl _ _ _) hK28 ?_
      clear hKK
      (try simp only [Act.put, List.setIfInBounds_toArray, List.set_cons_zero, List.set_cons_succ])
      repeat (first | (refine Xr.take 0 (some 119) (v := ?_) rfl rfl (by decide +kernel) (by rfl) ?_ ?_; rotate_left; (focus (intro w' hk; go_simp; (try with_reducible rfl); done)); (try simp only [Act.put, List.setIfInBounds_toArray, List.set_cons_zero, List.set_cons_succ])) | (refine Xr.take 1 (some 120) (v := ?_) rfl rfl (by decide +kernel) (by rfl) ?_ ?_; rotate_left; (focus (intro w' hk; go_simp; (try with_reducible rfl); done)); (try simp only [Act.put, List.setIfInBounds_toArray, List.set_cons_zero, List.set_cons_succ])) | (refine Xr.take 2 (some 121) (v := ?_) rfl rfl (by decide +kernel) (by rfl) ?_ ?_; rotate_left; (focus (intro w' hk; go_simp; (try with_reducible rfl); done)); (try simp only [Act.put, List.setIfInBounds_toArray, List.set_cons_zero, List.set_cons_succ])) | (refine Xr.take 3 (some 122) (v := ?_) rfl rfl (by decide +kernel) (by rfl) ?_ ?_; rotate_left; (focus (intro w' hk; go_simp; (try with_reducible rfl); done)); (try simp only [Act.put, List.setIfInBounds_toArray, List.set_cons_zero, List.set_cons_succ])) | (refine Xr.take 4 (some 123) (v := ?_) rfl rfl (by decide +kernel) (by rfl) ?_ ?_; rotate_left; (focus (intro w' hk; go_simp; (try with_reducible rfl); done)); (try simp only [Act.put, List.setIfInBounds_toArray, List.set_cons_zero, List.set_cons_succ])) | (refine Xr.take 5 (some 124) (v := ?_) rfl rfl (by decide +kernel) (by rfl) ?_ ?_; rotate_left; (focus (intro w' hk; go_simp; (try with_reducible rfl); done)); (try simp only [Act.put, List.setIfInBounds_toArray, List.set_cons_zero, List.set_cons_succ])) | (refine Xr.take 8 (some 127) (v := ?_) rfl rfl (by decide +kernel) (by rfl) ?_ ?_; rotate_left; (focus (intro w' hk; go_simp; (try with_reducible rfl); done)); (try simp only [Act.put, List.setIfInBounds_toArray, List.set_cons_zero, List.set_cons_succ])) | (refine Xr.take 9 (some 128) (v := ?_) rfl rfl (by decide +kernel) (by rfl) ?_ ?_; rotate_left; (focus (intro w' hk; go_simp; (try with_reducible rfl); done)); (try simp only [Act.put, List.setIfInBounds_toArray, List.set_cons_zero, List.set_cons_succ])))
      refine Xr.stepZ rfl (by decide +kernel) (fun _ => by rfl) (fun w29 gb hE29 hK29 hgb hB _ K hKK => ?_)
      (try simp only [Act.put, List.setIfInBounds_toArray, List.set_cons_zero, List.set_cons_succ])
      have T29 := (T21.ext hE28).ext hE29
      have hB' : Blk w29 gb 81 (flat [(o1, o2, (ys.length : Int))]).toArray := hB
      refine wp_app _ _ _ _ rfl base 81 iX _ 3 24 Try.underlying88 hX0 hX1 hX2 hX3 rfl (by omega) A' s.ap.length c' (flat s.ap) rfl T29.desk.own _ 1 1 (flat [(o1, o2, (ys.length : Int))]) rfl rfl (blk_cells hB') (flat_one _) (by unfold maxLen; omega) (by omega) (by have := T29.desk.lo; have := T29.desk.blk.lt; omega) ?_
      intro A2 c2 w30 ho30 hg30 hat30
      refine hKK _ _ (WI_kp (KpP.of_grown hg30) (fun i hi => List.mem_cons_of_mem _ (mem_blkL.2 hi))) (hK29.kpP (KpP.of_grown hg30) (fun i hi => List.mem_cons_of_mem _ (mem_blkL.2 hi))) ?_
      clear hKK
      (try simp only [Act.put, List.setIfInBounds_toArray, List.set_cons_zero, List.set_cons_succ])
      repeat (first | (refine Xr.take 0 (some 119) (v := ?_) rfl rfl (by decide +kernel) (by rfl) ?_ ?_; rotate_left; (focus (intro w' hk; go_simp; (try with_reducible rfl); done)); (try simp only [Act.put, List.setIfInBounds_toArray, List.set_cons_zero, List.set_cons_succ])) | (refine Xr.take 1 (some 120) (v := ?_) rfl rfl (by decide +kernel) (by rfl) ?_ ?_; rotate_left; (focus (intro w' hk; go_simp; (try with_reducible rfl); done)); (try simp only [Act.put, List.setIfInBounds_toArray, List.set_cons_zero, List.set_cons_succ])) | (refine Xr.take 2 (some 121) (v := ?_) rfl rfl (by decide +kernel) (by rfl) ?_ ?_; rotate_left; (focus (intro w' hk; go_simp; (try with_reducible rfl); done)); (try simp only [Act.put, List.setIfInBounds_toArray, List.set_cons_zero, List.set_cons_succ])) | (refine Xr.take 3 (some 122) (v := ?_) rfl rfl (by decide +kernel) (by rfl) ?_ ?_; rotate_left; (focus (intro w' hk; go_simp; (try with_reducible rfl); done)); (try simp only [Act.put, List.setIfInBounds_toArray, List.set_cons_zero, List.set_cons_succ])) | (refine Xr.take 4 (some 123) (v := ?_) rfl rfl (by decide +kernel) (by rfl) ?_ ?_; rotate_left; (focus (intro w' hk; go_simp; (try with_reducible rfl); done)); (try simp only [Act.put, List.setIfInBounds_toArray, List.set_cons_zero, List.set_cons_succ])) | (refine Xr.take 5 (some 124) (v := ?_) rfl rfl (by decide +kernel) (by rfl) ?_ ?_; rotate_left; (focus (intro w' hk; go_simp; (try with_reducible rfl); done)); (try simp only [Act.put, List.setIfInBounds_toArray, List.set_cons_zero, List.set_cons_succ])) | (refine Xr.take 8 (some 127) (v := ?_) rfl rfl (by decide +kernel) (by rfl) ?_ ?_; rotate_left; (focus (intro w' hk; go_simp; (try with_reducible rfl); done)); (try simp only [Act.put, List.setIfInBounds_toArray, List.set_cons_zero, List.set_cons_succ])) | (refine Xr.take 9 (some 128) (v := ?_) rfl rfl (by decide +kernel) (by rfl) ?_ ?_; rotate_left; (focus (intro w' hk; go_simp; (try with_reducible rfl); done)); (try simp only [Act.put, List.setIfInBounds_toArray, List.set_cons_zero, List.set_cons_succ])))
      refine Xr.step 10 rfl (by decide +kernel) (by rfl) (fun w31 hE31 hK31 K hKK => ?_)
      have hbg := ((KpP.of_grown hg30).blk T29.desk.blk T29.desk.ne).ext hE31
      obtain ⟨q1, q2, q3, q4, q5, q6, q7⟩ := hbg.c3
      go_simp
      refine hKK _ _ (WI_setL (WI_refl _ _ _) List.mem_cons_self _ _) (hK31.setL List.mem_cons_self _ _) ?_
      clear hKK
      (try simp only [Act.put, List.setIfInBounds_toArray, List.set_cons_zero, List.set_cons_succ])
      repeat (first | (refine Xr.take 0 (some 119) (v := ?_) rfl rfl (by decide +kernel) (by rfl) ?_ ?_; rotate_left; (focus (intro w' hk; go_simp; (try with_reducible rfl); done)); (try simp only [Act.put, List.setIfInBounds_toArray, List.set_cons_zero, List.set_cons_succ])) | (refine Xr.take 1 (some 120) (v := ?_) rfl rfl (by decide +kernel) (by rfl) ?_ ?_; rotate_left; (focus (intro w' hk; go_simp; (try with_reducible rfl); done)); (try simp only [Act.put, List.setIfInBounds_toArray, List.set_cons_zero, List.set_cons_succ])) | (refine Xr.take 2 (some 121) (v := ?_) rfl rfl (by decide +kernel) (by rfl) ?_ ?_; rotate_left; (focus (intro w' hk; go_simp; (try with_reducible rfl); done)); (try simp only [Act.put, List.setIfInBounds_toArray, List.set_cons_zero, List.set_cons_succ])) | (refine Xr.take 3 (some 122) (v := ?_) rfl rfl (by decide +kernel) (by rfl) ?_ ?_; rotate_left; (focus (intro w' hk; go_simp; (try with_reducible rfl); done)); (try simp only [Act.put, List.setIfInBounds_toArray, List.set_cons_zero, List.set_cons_succ])) | (refine Xr.take 4 (some 123) (v := ?_) rfl rfl (by decide +kernel) (by rfl) ?_ ?_; rotate_left; (focus (intro w' hk; go_simp; (try with_reducible rfl); done)); (try simp only [Act.put, List.setIfInBounds_toArray, List.set_cons_zero, List.set_cons_succ])) | (refine Xr.take 5 (some 124) (v := ?_) rfl rfl (by decide +kernel) (by rfl) ?_ ?_; rotate_left; (focus (intro w' hk; go_simp; (try with_reducible rfl); done)); (try simp only [Act.put, List.setIfInBounds_toArray, List.set_cons_zero, List.set_cons_succ])) | (refine Xr.take 8 (some 127) (v := ?_) rfl rfl (by decide +kernel) (by rfl) ?_ ?_; rotate_left; (focus (intro w' hk; go_simp; (try with_reducible rfl); done)); (try simp only [Act.put, List.setIfInBounds_toArray, List.set_cons_zero, List.set_cons_succ])) | (refine Xr.take 9 (some 128) (v := ?_) rfl rfl (by decide +kernel) (by rfl) ?_ ?_; rotate_left; (focus (intro w' hk; go_simp; (try with_reducible rfl); done)); (try simp only [Act.put, List.setIfInBounds_toArray, List.set_cons_zero, List.set_cons_succ])))
      refine Xr.done (by decide +kernel) (fun w32 hE32 hK32 => ?_)
      have T32 := (T29.app hg30 ho30 hat30 hE31 ⟨hqb1, hqb2, by simp only; omega, hqb3, by simp only; omega⟩ (by omega)).ext hE32
      replace b10 := Kp.blk b10 hK32 n10
      replace b12 := Kp.blk b12 hK32 n12
      have hkp32 : KpP (ownB g m1 m2 A) w w32 := (hkp.trans (KpP.of_ext x20)).thenKp hK32 (fun i hi => by
        rw [List.mem_cons, mem_blkL] at hi
        rcases hi with e | e
        · exact .inl (.inl e)
        · rcases hA'.out i e with h | h
          · exact .inl (.inr (.inr (.inr h)))
          · exact .inr h)
      have hA2 : ∀ b, A2.map (·.block) = some b → A.map (·.block) = some b ∨ w.heap.size ≤ b := fun b hb => by
        rcases hat30 with e | e
        · exact hA'.out b (e.symm.trans hb)
        · rw [e] at hb; injection hb with hb
          have := hkp.size; have := x20.size; have := hE28.size; have := hE29.size
          right; omega
      have HA2 := Lib.hid hA2
      clear hA2 ke0 ke1 ke2 e0 e1 e2 e0f e1f e2f ez d0 d1 d2 d0f d1f d2f dz q0 q1 q2 q3 q4 q5 q6 q7 hbg hB hB' hE28 hE29 hE31 hE32 hK28 hK29 hK31 hK32 ho30 hg30 hat30
      go_wp2_with fail
      have hw20 : w.heap.size ≤ w20.heap.size := Nat.le_trans hkp.size hwr
      have hm1 := hD.next.lt
      have hm2' := hD.held.lt
      have hwy : IntKind.i64.wrap (yn + 1) = yn + 1 := by rw [IntKind.wrap_i64]; omega
      have HNX := Lib.hid (show nxOf s.nx yc = yn from HPX.out.2.1.1.symm)
      obtain ⟨d0, d1, d2, d0f, d1f, d2f, dz⟩ := T32.desk.blk.c3
      have i0 := b10.cell 0
      simp only [List.getElem?_toArray, List.getElem?_cons_succ, List.getElem?_cons_zero] at i0
      have n17 : g ∉ [m1] := by have := T32.desk.next.ne T32.desk.blk; simp; exact fun e => this e.symm
      have n17b : w20.heap.size ∉ [m1] := by simp; omega
      have n17c : g12 ∉ [m1] := by have := x20.size; simp; omega
      have kd1 := fun (w' : World) (h : Kp [m1] w32 w') => h.cell d1 n17
      have ki0 := fun (w' : World) (h : Kp [m1] w32 w') => h.cell i0 n17b
      refine Xr.start [m1] (by kernel_rfl) ?_
      repeat (first | (refine Xr.take 0 (some 129) (v := ?_) rfl rfl (by decide +kernel) (by rfl) ?_ ?_; rotate_left; (focus (intro w' hk; go_simp; (try with_reducible rfl); done)); (try simp only [Act.put, List.setIfInBounds_toArray, List.set_cons_zero, List.set_cons_succ])) | (refine Xr.take 1 (some 130) (v := ?_) rfl rfl (by decide +kernel) (by rfl) ?_ ?_; rotate_left; (focus (intro w' hk; go_simp; (try with_reducible rfl); done)); (try simp only [Act.put, List.setIfInBounds_toArray, List.set_cons_zero, List.set_cons_succ])) | (refine Xr.take 2 (some 131) (v := ?_) rfl rfl (by decide +kernel) (by rfl) ?_ ?_; rotate_left; (focus (intro w' hk; go_simp; (try with_reducible rfl); done)); (try simp only [Act.put, List.setIfInBounds_toArray, List.set_cons_zero, List.set_cons_succ])) | (refine Xr.take 3 (some 132) (v := ?_) rfl rfl (by decide +kernel) (by rfl) ?_ ?_; rotate_left; (focus (intro w' hk; go_simp; (try with_reducible rfl); done)); (try simp only [Act.put, List.setIfInBounds_toArray, List.set_cons_zero, List.set_cons_succ])) | (refine Xr.take 4 (some 133) (v := ?_) rfl rfl (by decide +kernel) (by rfl) ?_ ?_; rotate_left; (focus (intro w' hk; go_simp; (try with_reducible rfl); done)); (try simp only [Act.put, List.setIfInBounds_toArray, List.set_cons_zero, List.set_cons_succ])) | (refine Xr.take 5 (some 134) (v := ?_) rfl rfl (by decide +kernel) (by rfl) ?_ ?_; rotate_left; (focus (intro w' hk; go_simp; (try with_reducible rfl); done)); (try simp only [Act.put, List.setIfInBounds_toArray, List.set_cons_zero, List.set_cons_succ])) | (refine Xr.take 6 (some 135) (v := ?_) rfl rfl (by decide +kernel) (by rfl) ?_ ?_; rotate_left; (focus (intro w' hk; go_simp; (try with_reducible rfl); done)); (try simp only [Act.put, List.setIfInBounds_toArray, List.set_cons_zero, List.set_cons_succ])) | (refine Xr.take 7 (some 136) (v := ?_) rfl rfl (by decide +kernel) (by rfl) ?_ ?_; rotate_left; (focus (intro w' hk; go_simp; (try with_reducible rfl); done)); (try simp only [Act.put, List.setIfInBounds_toArray, List.set_cons_zero, List.set_cons_succ])))
      refine Xr.step 6 rfl (by decide +kernel) (by rfl) (fun w33 hE33 hK33 K hKK => ?_)
      have hlk := ((T32.desk.next.ext hE33).look klawInt Try.underlying86 (zInt _) yc).1
      rw [nx_look, HNX.out] at hlk
      go_simp
      refine hKK _ _ (WI_refl _ _ _) hK33 ?_
      clear hKK hlk
      (try simp only [Act.put, List.setIfInBounds_toArray, List.set_cons_zero, List.set_cons_succ])
      repeat (first | (refine Xr.take 0 (some 129) (v := ?_) rfl rfl (by decide +kernel) (by rfl) ?_ ?_; rotate_left; (focus (intro w' hk; go_simp; (try with_reducible rfl); done)); (try simp only [Act.put, List.setIfInBounds_toArray, List.set_cons_zero, List.set_cons_succ])) | (refine Xr.take 1 (some 130) (v := ?_) rfl rfl (by decide +kernel) (by rfl) ?_ ?_; rotate_left; (focus (intro w' hk; go_simp; (try with_reducible rfl); done)); (try simp only [Act.put, List.setIfInBounds_toArray, List.set_cons_zero, List.set_cons_succ])) | (refine Xr.take 2 (some 131) (v := ?_) rfl rfl (by decide +kernel) (by rfl) ?_ ?_; rotate_left; (focus (intro w' hk; go_simp; (try with_reducible rfl); done)); (try simp only [Act.put, List.setIfInBounds_toArray, List.set_cons_zero, List.set_cons_succ])) | (refine Xr.take 3 (some 132) (v := ?_) rfl rfl (by decide +kernel) (by rfl) ?_ ?_; rotate_left; (focus (intro w' hk; go_simp; (try with_reducible rfl); done)); (try simp only [Act.put, List.setIfInBounds_toArray, List.set_cons_zero, List.set_cons_succ])) | (refine Xr.take 4 (some 133) (v := ?_) rfl rfl (by decide +kernel) (by rfl) ?_ ?_; rotate_left; (focus (intro w' hk; go_simp; (try with_reducible rfl); done)); (try simp only [Act.put, List.setIfInBounds_toArray, List.set_cons_zero, List.set_cons_succ])) | (refine Xr.take 5 (some 134) (v := ?_) rfl rfl (by decide +kernel) (by rfl) ?_ ?_; rotate_left; (focus (intro w' hk; go_simp; (try with_reducible rfl); done)); (try simp only [Act.put, List.setIfInBounds_toArray, List.set_cons_zero, List.set_cons_succ])) | (refine Xr.take 6 (some 135) (v := ?_) rfl rfl (by decide +kernel) (by rfl) ?_ ?_; rotate_left; (focus (intro w' hk; go_simp; (try with_reducible rfl); done)); (try simp only [Act.put, List.setIfInBounds_toArray, List.set_cons_zero, List.set_cons_succ])) | (refine Xr.take 7 (some 136) (v := ?_) rfl rfl (by decide +kernel) (by rfl) ?_ ?_; rotate_left; (focus (intro w' hk; go_simp; (try with_reducible rfl); done)); (try simp only [Act.put, List.setIfInBounds_toArray, List.set_cons_zero, List.set_cons_succ])))
      refine Xr.step 8 rfl (by decide +kernel) (by rfl) (fun w34 hE34 hK34 K hKK => ?_)
      have T34 := (T32.ext hE33).ext hE34
      refine wp_put _ _ _ rfl klawInt Try.underlying86 T34.desk.next yc (yn + 1) rfl rfl rfl ?_
      intro w35 hM35 hk35
      refine hKK _ _ (WI_kp hk35 (fun i hi => by simp [hi])) (hK34.kpP hk35 (fun i hi => by simp [hi])) ?_
      clear hKK
      (try simp only [Act.put, List.setIfInBounds_toArray, List.set_cons_zero, List.set_cons_succ])
      repeat (first | (refine Xr.take 0 (some 129) (v := ?_) rfl rfl (by decide +kernel) (by rfl) ?_ ?_; rotate_left; (focus (intro w' hk; go_simp; (try with_reducible rfl); done)); (try simp only [Act.put, List.setIfInBounds_toArray, List.set_cons_zero, List.set_cons_succ])) | (refine Xr.take 1 (some 130) (v := ?_) rfl rfl (by decide +kernel) (by rfl) ?_ ?_; rotate_left; (focus (intro w' hk; go_simp; (try with_reducible rfl); done)); (try simp only [Act.put, List.setIfInBounds_toArray, List.set_cons_zero, List.set_cons_succ])) | (refine Xr.take 2 (some 131) (v := ?_) rfl rfl (by decide +kernel) (by rfl) ?_ ?_; rotate_left; (focus (intro w' hk; go_simp; (try with_reducible rfl); done)); (try simp only [Act.put, List.setIfInBounds_toArray, List.set_cons_zero, List.set_cons_succ])) | (refine Xr.take 3 (some 132) (v := ?_) rfl rfl (by decide +kernel) (by rfl) ?_ ?_; rotate_left; (focus (intro w' hk; go_simp; (try with_reducible rfl); done)); (try simp only [Act.put, List.setIfInBounds_toArray, List.set_cons_zero, List.set_cons_succ])) | (refine Xr.take 4 (some 133) (v := ?_) rfl rfl (by decide +kernel) (by rfl) ?_ ?_; rotate_left; (focus (intro w' hk; go_simp; (try with_reducible rfl); done)); (try simp only [Act.put, List.setIfInBounds_toArray, List.set_cons_zero, List.set_cons_succ])) | (refine Xr.take 5 (some 134) (v := ?_) rfl rfl (by decide +kernel) (by rfl) ?_ ?_; rotate_left; (focus (intro w' hk; go_simp; (try with_reducible rfl); done)); (try simp only [Act.put, List.setIfInBounds_toArray, List.set_cons_zero, List.set_cons_succ])) | (refine Xr.take 6 (some 135) (v := ?_) rfl rfl (by decide +kernel) (by rfl) ?_ ?_; rotate_left; (focus (intro w' hk; go_simp; (try with_reducible rfl); done)); (try simp only [Act.put, List.setIfInBounds_toArray, List.set_cons_zero, List.set_cons_succ])) | (refine Xr.take 7 (some 136) (v := ?_) rfl rfl (by decide +kernel) (by rfl) ?_ ?_; rotate_left; (focus (intro w' hk; go_simp; (try with_reducible rfl); done)); (try simp only [Act.put, List.setIfInBounds_toArray, List.set_cons_zero, List.set_cons_succ])))
      refine Xr.done (by decide +kernel) (fun w36 hE36 hK36 => ?_)
      have T36 := (T34.putNx hk35 hM35).ext hE36
      replace b10 := Kp.blk b10 hK36 n17b
      replace b12 := Kp.blk b12 hK36 n17c
      have hkp36 := hkp32.thenKp hK36 (fun i hi => by simp at hi; exact .inl (.inr (.inl hi)))
      clear kd1 ki0 i0 d0 d1 d2 d0f d1f d2f dz hE33 hE34 hE36 hK33 hK34 hK36 hM35 hk35 T34 hwy
      go_wp2_with fail
      obtain ⟨d0, d1, d2, d0f, d1f, d2f, dz⟩ := T36.desk.blk.c3
      have i0 := b10.cell 0
      have i1 := b10.cell 1
      simp only [List.getElem?_toArray, List.getElem?_cons_succ, List.getElem?_cons_zero] at i0 i1
      have n18 : g ∉ [m2] := by have := T36.desk.held.ne T36.desk.blk; simp; exact fun e => this e.symm
      have n18b : w20.heap.size ∉ [m2] := by simp; omega
      have n18c : g12 ∉ [m2] := by have := x20.size; simp; omega
      have kd2 := fun (w' : World) (h : Kp [m2] w36 w') => h.cell d2 n18
      have ki0 := fun (w' : World) (h : Kp [m2] w36 w') => h.cell i0 n18b
      have ki1 := fun (w' : World) (h : Kp [m2] w36 w') => h.cell i1 n18b
      refine Xr.start [m2] (by kernel_rfl) ?_
      repeat (first | (refine Xr.take 0 (some 137) (v := ?_) rfl rfl (by decide +kernel) (by rfl) ?_ ?_; rotate_left; (focus (intro w' hk; go_simp; (try with_reducible rfl); done)); (try simp only [Act.put, List.setIfInBounds_toArray, List.set_cons_zero, List.set_cons_succ])) | (refine Xr.take 1 (some 138) (v := ?_) rfl rfl (by decide +kernel) (by rfl) ?_ ?_; rotate_left; (focus (intro w' hk; go_simp; (try with_reducible rfl); done)); (try simp only [Act.put, List.setIfInBounds_toArray, List.set_cons_zero, List.set_cons_succ])) | (refine Xr.take 2 (some 139) (v := ?_) rfl rfl (by decide +kernel) (by rfl) ?_ ?_; rotate_left; (focus (intro w' hk; go_simp; (try with_reducible rfl); done)); (try simp only [Act.put, List.setIfInBounds_toArray, List.set_cons_zero, List.set_cons_succ])) | (refine Xr.take 3 (some 140) (v := ?_) rfl rfl (by decide +kernel) (by rfl) ?_ ?_; rotate_left; (focus (intro w' hk; go_simp; (try with_reducible rfl); done)); (try simp only [Act.put, List.setIfInBounds_toArray, List.set_cons_zero, List.set_cons_succ])) | (refine Xr.take 4 (some 141) (v := ?_) rfl rfl (by decide +kernel) (by rfl) ?_ ?_; rotate_left; (focus (intro w' hk; go_simp; (try with_reducible rfl); done)); (try simp only [Act.put, List.setIfInBounds_toArray, List.set_cons_zero, List.set_cons_succ])) | (refine Xr.take 5 (some 142) (v := ?_) rfl rfl (by decide +kernel) (by rfl) ?_ ?_; rotate_left; (focus (intro w' hk; go_simp; (try with_reducible rfl); done)); (try simp only [Act.put, List.setIfInBounds_toArray, List.set_cons_zero, List.set_cons_succ])) | (refine Xr.take 6 (some 143) (v := ?_) rfl rfl (by decide +kernel) (by rfl) ?_ ?_; rotate_left; (focus (intro w' hk; go_simp; (try with_reducible rfl); done)); (try simp only [Act.put, List.setIfInBounds_toArray, List.set_cons_zero, List.set_cons_succ])) | (refine Xr.take 7 (some 144) (v := ?_) rfl rfl (by decide +kernel) (by rfl) ?_ ?_; rotate_left; (focus (intro w' hk; go_simp; (try with_reducible rfl); done)); (try simp only [Act.put, List.setIfInBounds_toArray, List.set_cons_zero, List.set_cons_succ])) | (refine Xr.take 8 (some 145) (v := ?_) rfl rfl (by decide +kernel) (by rfl) ?_ ?_; rotate_left; (focus (intro w' hk; go_simp; (try with_reducible rfl); done)); (try simp only [Act.put, List.setIfInBounds_toArray, List.set_cons_zero, List.set_cons_succ])))
      refine Xr.step 9 rfl (by decide +kernel) (by rfl) (fun w37 hE37 hK37 K hKK => ?_)
      have T37 := T36.ext hE37
      refine wp_del _ _ rfl klawKey Try.underlying87 T37.desk.held (yc, yn) rfl rfl ?_
      intro w38 hM38 hk38
      refine hKK _ _ (WI_kp hk38 (fun i hi => by simp [hi])) (hK37.kpP hk38 (fun i hi => by simp [hi])) ?_
      clear hKK
      (try simp only [Act.put, List.setIfInBounds_toArray, List.set_cons_zero, List.set_cons_succ])
      repeat (first | (refine Xr.take 0 (some 137) (v := ?_) rfl rfl (by decide +kernel) (by rfl) ?_ ?_; rotate_left; (focus (intro w' hk; go_simp; (try with_reducible rfl); done)); (try simp only [Act.put, List.setIfInBounds_toArray, List.set_cons_zero, List.set_cons_succ])) | (refine Xr.take 1 (some 138) (v := ?_) rfl rfl (by decide +kernel) (by rfl) ?_ ?_; rotate_left; (focus (intro w' hk; go_simp; (try with_reducible rfl); done)); (try simp only [Act.put, List.setIfInBounds_toArray, List.set_cons_zero, List.set_cons_succ])) | (refine Xr.take 2 (some 139) (v := ?_) rfl rfl (by decide +kernel) (by rfl) ?_ ?_; rotate_left; (focus (intro w' hk; go_simp; (try with_reducible rfl); done)); (try simp only [Act.put, List.setIfInBounds_toArray, List.set_cons_zero, List.set_cons_succ])) | (refine Xr.take 3 (some 140) (v := ?_) rfl rfl (by decide +kernel) (by rfl) ?_ ?_; rotate_left; (focus (intro w' hk; go_simp; (try with_reducible rfl); done)); (try simp only [Act.put, List.setIfInBounds_toArray, List.set_cons_zero, List.set_cons_succ])) | (refine Xr.take 4 (some 141) (v := ?_) rfl rfl (by decide +kernel) (by rfl) ?_ ?_; rotate_left; (focus (intro w' hk; go_simp; (try with_reducible rfl); done)); (try simp only [Act.put, List.setIfInBounds_toArray, List.set_cons_zero, List.set_cons_succ])) | (refine Xr.take 5 (some 142) (v := ?_) rfl rfl (by decide +kernel) (by rfl) ?_ ?_; rotate_left; (focus (intro w' hk; go_simp; (try with_reducible rfl); done)); (try simp only [Act.put, List.setIfInBounds_toArray, List.set_cons_zero, List.set_cons_succ])) | (refine Xr.take 6 (some 143) (v := ?_) rfl rfl (by decide +kernel) (by rfl) ?_ ?_; rotate_left; (focus (intro w' hk; go_simp; (try with_reducible rfl); done)); (try simp only [Act.put, List.setIfInBounds_toArray, List.set_cons_zero, List.set_cons_succ])) | (refine Xr.take 7 (some 144) (v := ?_) rfl rfl (by decide +kernel) (by rfl) ?_ ?_; rotate_left; (focus (intro w' hk; go_simp; (try with_reducible rfl); done)); (try simp only [Act.put, List.setIfInBounds_toArray, List.set_cons_zero, List.set_cons_succ])) | (refine Xr.take 8 (some 145) (v := ?_) rfl rfl (by decide +kernel) (by rfl) ?_ ?_; rotate_left; (focus (intro w' hk; go_simp; (try with_reducible rfl); done)); (try simp only [Act.put, List.setIfInBounds_toArray, List.set_cons_zero, List.set_cons_succ])))
      refine Xr.done (by decide +kernel) (fun w39 hE39 hK39 => ?_)
      have T39 := (T37.del hk38 hM38).ext hE39
      have iy := ((T37.keep hk38 (.inr rfl)).2.2.2.2 _ HPX.out.1).ext hE39
      have hsep : ys ≠ [] → ∀ b, yA.map (·.block) = some b → b ≠ g ∧ Off A2 b ∧ Off L b := fun hx b hb => ⟨((T37.desk.il _ HPX.out.1).2.2 hx b hb).1, ((T37.desk.il _ HPX.out.1).2.2 hx b hb).2, T37.hil _ HPX.out.1 hx b hb⟩
      have HSEP := Lib.hid hsep
      replace b10 := Kp.blk b10 hK39 n18b
      replace b12 := Kp.blk b12 hK39 n18c
      have hkp39 := hkp36.thenKp hK39 (fun i hi => by simp at hi; exact .inl (.inr (.inr (.inl hi))))
      clear kd2 ki0 ki1 i0 i1 d0 d1 d2 d0f d1f d2f dz hE37 hE39 hK37 hK39 hM38 hk38 hsep
      have i5 := b10.cell 5
      simp only [List.getElem?_toArray, List.getElem?_cons_succ, List.getElem?_cons_zero] at i5
      have e0 := (Blk.c3 b12).1; have e1 := (Blk.c3 b12).2.1; have e2 := (Blk.c3 b12).2.2.1; have e0f := (Blk.c3 b12).2.2.2.1; have e1f := (Blk.c3 b12).2.2.2.2.1; have e2f := (Blk.c3 b12).2.2.2.2.2.1; have ez := (Blk.c3 b12).2.2.2.2.2.2
      have hLn : ∀ b, L.map (·.block) = some b → w.heap.size ≤ b := OwnS.row T39.outs
      have hA2b : ∀ b, A2.map (·.block) = some b → b < w39.heap.size := fun b hb => (OwnS.blt T39.desk.own hb).1
      have HT39 := T39
      have hkz := hkp39.size
      have HH := Lib.hid (show out.length + 1 ≤ maxLen ∧ (out.length + 1) * 40 ≤ 140737488355328 by unfold maxLen; omega)
      simp only at iy T39
      go_wp2_with ((at_builtin; refine wpList_app _ rfl _ _ _ rfl w.heap.size 25 iE _ 3 40 Try.underlying28 hE0 hE1 hE2 hE3 rfl (by omega) L out.length cl (flatE out) rfl (OwnS.ext T39.outs (Ext.alloc _ _)) _ 1 1 (flatE [⟨⟨o1, o2, ys⟩, yA, yk⟩]) rfl rfl (blk_cells (Blk.new w39 25 (flatE [⟨⟨o1, o2, ys⟩, yA, yk⟩]).toArray)) (flatE_one _) HH.out.1 HH.out.2 (by simp; omega) ?_; intro L2 cl2 w40 ho40 hg40 hat40))
      have T40 := (T39.ext (Ext.alloc _ _)).put (o := ⟨⟨o1, o2, ys⟩, yA, yk⟩) hg40 ho40 (hat40.imp id (fun e => ⟨_, Nat.le_refl _, e⟩)) (fun b hb => by have := hA2b b hb; simp; omega) (iy.ext (Ext.alloc _ _)) HSEP.out
      have hkp40 : KpP (ownB g m1 m2 A) w w40 := (hkp39.trans (KpP.of_ext (Ext.alloc _ _))).thenGrown hg40 hLn
      have hms : movedOf s ⟨⟨yc, yn, yb, ⟨ya, yd, ys⟩⟩, yA, yk⟩ = (o1, o2) := HQ.out.symm
      have hstep : stepOf s ((yc, yn), ⟨⟨yc, yn, yb, ⟨ya, yd, ys⟩⟩, yA, yk⟩) = ⟨s.ap ++ [(o1, o2, (ys.length : Int))], putL s.nx yc (yn + 1), delL s.hd (yc, yn)⟩ := by
        unfold stepOf; simp only [hms, HNX.out]
      have hout : outOf s ((yc, yn), ⟨⟨yc, yn, yb, ⟨ya, yd, ys⟩⟩, yA, yk⟩) = ⟨⟨o1, o2, ys⟩, yA, yk⟩ := by unfold outOf; simp only [hms]
      have hsteps := Steps.snoc _ hst.out HPX.out.1 HPX.out.2.1 HPX.out.2.2
      rw [hstep, hout] at hsteps
      have HSTEPS := Lib.hid hsteps
      clear hms hstep hout hsteps
      have hfl1 : (delL s.hd (yc, yn)).length ≤ gk - 1 := hfl.out.1
      have hfl2 := hfl.out.2
      have hdl : (delL s.hd (yc, yn)).length ≤ s.hd.length - 1 ∧ 0 < s.hd.length := filter_less HPX.out.1 (Nat.le_refl _)
      have HFIN := Lib.hid (show (delL s.hd (yc, yn)).length ≤ gk - 1 ∧ (s.ap ++ [(o1, o2, (ys.length : Int))]).length + (delL s.hd (yc, yn)).length ≤ 4400 ∧ (out ++ [(⟨⟨o1, o2, ys⟩, yA, yk⟩ : Oe)]).length ≤ (s.ap ++ [(o1, o2, (ys.length : Int))]).length by
        simp only [List.length_append, List.length_cons, List.length_nil]; omega)
      clear hdl hfl1
      go_wp2_with fail
      go_roundg (gk - 1)
      case measure => omega
      case rel => exact ⟨A2, c2, ⟨s.ap ++ [(o1, o2, (ys.length : Int))], putL s.nx yc (yn + 1), delL s.hd (yc, yn)⟩, L2, cl2, out ++ [⟨⟨o1, o2, ys⟩, yA, yk⟩], HFIN.out.1, by simp, HFIN.out.2.1, HFIN.out.2.2, HSTEPS, T40, hkp40, HA2⟩
end Go.Proofs.Ythhfjomjjhenkaa
