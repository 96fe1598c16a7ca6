/- Slices of holdings that a call has made: what they hold, append, copy, mark, held. Condition: at most 1048576 holdings. -/
import Derived.Test.YtdeoampkbbbleaaHoldC
namespace Go.Proofs.Ytdeoampkbbbleaa
open Go.RowKit Pu
set_option linter.unusedVariables false
set_option linter.unusedSimpArgs false

/-- The slice v, made since w, holds n holdings, read as g. -/
def OwnH (w w' : World) (v : Value) (n : Nat) (g : Nat → Nat → Int) : Prop := ∃ ys : List Value, w'.ownsRow w.heap.size 113 7 v n ys ∧ ys.length = n * 7 ∧ ∀ i, i < n → ∀ j, j < 7 → ys[i * 7 + j]? = some (.int .i64 (g i j))
theorem OwnH.up {w w1 w2 : World} {v n g} (h : OwnH w w1 v n g) (u : Up w1 w2) : OwnH w w2 v n g := by
  obtain ⟨ys, h1, h2, h3⟩ := h
  exact ⟨ys, World.ownsRow.kept h1 (grownBy_up u) (by cases v.ownBlock <;> simp), h2, h3⟩
theorem OwnH.by {w w1 w2 : World} {v n g} {b : Option Nat} (h : OwnH w w1 v n g) (u : w1.grownBy w2 b) (hb : ∀ k, v.ownBlock = some k → b ≠ some k) : OwnH w w2 v n g := by
  obtain ⟨ys, h1, h2, h3⟩ := h
  refine ⟨ys, World.ownsRow.kept h1 u ?_, h2, h3⟩
  cases hv : v.ownBlock with
  | none => simp
  | some k => have := hb k hv; first | exact Or.inr (fun e => this e.symm) | simpa using this | (intro e; exact this e.symm) | simp_all
theorem OwnH.base {w0 w w1 : World} {v n g} (h : OwnH w w1 v n g) (hs : w0.heap.size ≤ w.heap.size) : OwnH w0 w1 v n g := by
  obtain ⟨ys, h1, h2, h3⟩ := h
  exact ⟨ys, ⟨h1.1, h1.2.imp id fun ⟨g, cap, cur, e, hb, r⟩ => ⟨g, cap, cur, e, Nat.le_trans hs hb, r⟩⟩, h2, h3⟩
theorem OwnH.nil (w w' : World) (g : Nat → Nat → Int) : OwnH w w' (.slice none 0 0) 0 g := ⟨[], World.ownsRow_nil _ _ _ _, rfl, fun i hi => by omega⟩
theorem OwnH.start (W : World) {w : World} (h : W.heap.size ≤ w.heap.size) (g : Nat → Nat → Int) : OwnH W (w.alloc (.cells #[] 113)) (.slice (some ⟨w.heap.size, 0, none⟩) 0 0) 0 g :=
  ⟨[], World.ownsRow_made w #[] 0 h (by decide) (by simp), rfl, fun i hi => by omega⟩
theorem OwnH.form {w w' : World} {v n g} (h : OwnH w w' v n g) : ∃ A c, v = .slice A n c ∧ n ≤ c ∧ c ≤ 9223372036854775807 ∧
    (0 < n → ∃ b, A = some ⟨b, 0, none⟩ ∧ w.heap.size ≤ b ∧ b < w'.heap.size) := by
  obtain ⟨ys, h1, h2, h3⟩ := h
  rcases h1.2 with ⟨rfl, h0⟩ | ⟨b, cap, cur, rfl, hb, hg, hn, hm, _⟩
  · exact ⟨none, 0, by rw [h0], by omega, by omega, fun hp => by omega⟩
  · exact ⟨_, cap, rfl, hn, by unfold maxLen at hm; omega, fun hp => ⟨b, rfl, hb, (Array.getElem?_eq_some_iff.1 hg).1⟩⟩
theorem OwnH.hat {w w' : World} {v n g} (h : OwnH w w' v n g) : HAt w' v n g := by
  obtain ⟨A, c, h1, h2, h3, h4⟩ := h.form
  subst h1
  refine ⟨A, c, rfl, h2, h3, fun i hi => ?_⟩
  obtain ⟨b, rfl, _, hlt⟩ := h4 (by omega)
  refine ⟨b, 0, rfl, hlt, fun j hj => ?_⟩
  obtain ⟨ys, h5, h6, h7⟩ := h
  have e := h5.cellAt (i * 7 + j) (by omega)
  rw [h7 i hi j hj] at e
  simpa using e
/-- One holding more. -/
def addH (n : Nat) (g : Nat → Nat → Int) (u : Nat → Int) : Nat → Nat → Int := fun i => if i < n then g i else u
theorem wp_pushH {W w0 : World} {ops : Array Oper} {rest : List Oper} {o : Oper} {a : Act} {Q : Exit → Act → World → Prop} {v : Value} {n : Nat} {g : Nat → Nat → Int} {u : Nat → Int} (hW : Up W w0) (hown : OwnH W w0 v n g)
    (hgd : o.guard = none) (s e : Operand) (ho : o.op = .call { callee := .builtin .append, args := #[s, e], argTypes := #[35, 35] })
    (hs : a.eval s = v) (he : a.eval e = .slice (some ⟨w0.heap.size, 0, none⟩) 1 1) (hlen : n < 1048576)
    (h : ∀ v' (y : Grow W), OwnH W y.to v' (n + 1) (addH n g u) → (w0.alloc (.cells #[.int .i64 (u 0), .int .i64 (u 1), .int .i64 (u 2), .int .i64 (u 3), .int .i64 (u 4), .int .i64 (u 5), .int .i64 (u 6)] 113)).grownBy y.to v.ownBlock → wpList Try.prog ops Q rest (a.put o.dst v') y.to) :
    wpList Try.prog ops Q (o :: rest) a (w0.alloc (.cells #[.int .i64 (u 0), .int .i64 (u 1), .int .i64 (u 2), .int .i64 (u 3), .int .i64 (u 4), .int .i64 (u 5), .int .i64 (u 6)] 113)) := by
  obtain ⟨i0, hi, hz0, hz1, hz2⟩ := info_parts infoHold
  obtain ⟨ys, hr, hl, hf⟩ := hown
  have hown' : World.ownsRow (w0.alloc (.cells #[.int .i64 (u 0), .int .i64 (u 1), .int .i64 (u 2), .int .i64 (u 3), .int .i64 (u 4), .int .i64 (u 5), .int .i64 (u 6)] 113)) W.heap.size 113 7 v n ys := World.ownsRow.alloc hr _
  refine wpList_append_own _ hgd s e _ ho W.heap.size 113 i0 (.agg #[.int .i64 0, .int .i64 0, .int .i64 0, .int .i64 0, .int .i64 0, .int .i64 0, .int .i64 0]) 7 56 Try.underlying35 hi hz0 hz1 hz2 rfl (by decide) v n ys hs hown' ⟨w0.heap.size, 0, none⟩ 1 1 [.int .i64 (u 0), .int .i64 (u 1), .int .i64 (u 2), .int .i64 (u 3), .int .i64 (u 4), .int .i64 (u 5), .int .i64 (u 6)] he rfl ?_ (by simp [Value.oneCell']) (by unfold maxLen; omega) (by omega) (by have := hW.size; simp; omega) ?_
  · intro j q hj
    match j, hj with
    | 0, hj | 1, hj | 2, hj | 3, hj | 4, hj | 5, hj | 6, hj => simp at hj; subst hj; simp [Addr.add]
  · intro v' w1 h1 h2 _
    have hb : Below W.heap.size W w1 := (hW.alloc _).grown h2 (by have := hW.size; simp; omega) (fun k hk => (hown'.lt k hk).1)
    obtain ⟨y, rfl⟩ := Grow.mk' hb
    refine h v' y ⟨_, h1, by simp [hl]; omega, fun i hi j hj => ?_⟩ h2
    unfold addH
    by_cases e : i < n
    · rw [if_pos e, List.getElem?_append_left (by omega)]; exact hf i e j hj
    · have e2 : i = n := by omega
      subst e2
      rw [if_neg (by omega), List.getElem?_append_right (by omega), show i * 7 + j - ys.length = j from by omega]
      match j, hj with
      | 0, _ | 1, _ | 2, _ | 3, _ | 4, _ | 5, _ | 6, _ => rfl
/-- A copy of holdings is returned, its slice new. -/
def RetHO (w : World) (n : Nat) (g : Nat → Nat → Int) (e : Ending) (w' : World) : Prop := ∃ v, e = .returned v ∧ Up w w' ∧ OwnH w w' v n g
set_option maxRecDepth 100000 in
set_option maxHeartbeats 4000000 in
theorem l_CopyHO (A : Option Addr) (n c : Nat) (g : Nat → Nat → Int) (hn : n ≤ 1048576) (w : World) (hI : HInts w A n g) :
    Calls Try.prog 22 #[.slice A n c] w (RetHO w n g) := by
  obtain ⟨i0, hi, hz0, hz1, hz2⟩ := info_parts infoHold
  go_enter Try.func22, Try.ntmps22
  go_wp2_with (at_make; refine wpList_make_full _ rfl _ _ _ rfl w.heap.size 113 i0 (.agg #[.int .i64 0, .int .i64 0, .int .i64 0, .int .i64 0, .int .i64 0, .int .i64 0, .int .i64 0]) 7 Try.underlying35 hi hz0 hz1 .i64 .i64 n n n rfl rfl rfl rfl (by rw [hz2]; omega) (by unfold maxLen; omega) (Nat.le_refl _) ?_; intro w1 hown hgrow)
  clear hi hz0 hz1 hz2
  have hb : Below w.heap.size w w1 := (Below.refl _ _).grown hgrow (Nat.le_refl _) (fun k hk => by cases hk)
  obtain ⟨x, rfl⟩ := Grow.mk' hb
  go_loopw [4] (fun i wr => ∃ (k : Nat) (y : Grow w) (ys : List Value), k ≤ n ∧ i = .int .i64 k ∧ wr = y.to ∧ y.to.ownsRow w.heap.size 113 7 (.slice (some ⟨w.heap.size, 0, none⟩) n n) n ys ∧ ys.length = n * 7 ∧ ∀ i, i < k → ∀ j, j < 7 → ys[i * 7 + j]? = some (.int .i64 (g i j))) (fun i _ => n - (intOf i).toNat)
  case atStart => exact ⟨0, x, _, Nat.zero_le _, rfl, rfl, hown, by have := hown.1; simpa using this, fun j hj => by omega⟩
  case round =>
    clear hown hgrow hb x
    obtain ⟨k, y, ys, hk, rfl, rfl, hown, hl, hf⟩ := hrel
    have HO := Lib.hid hown
    have HF := Lib.hid hf
    have HL := Lib.hid hl
    clear hown hf hl
    by_cases hlt : k < n
    · obtain ⟨b, off, rfl, hlb, e0, e1, e2, e3, e4, e5, e6⟩ := (hI.up y.below).seven hlt
      have hlen : k * 7 + 6 < ys.length := by rw [HL.out]; omega
      go_wp2_with (go_at_call 144; (with_reducible refine (l_CopyHol _ _ _ _ _ _ _ _).mono ?_); rintro e w5 ⟨rfl, hx⟩; have HO5 := World.ownsRow.kept HO.out (grownBy_up hx) (by simp [Value.ownBlock]); have t0 : w5.cell? ⟨w.heap.size, k * 7, none⟩ = some (ys[k * 7]'(by omega)) := ((HO5.cellAt (k * 7) (by omega)).trans (List.getElem?_eq_getElem (by omega))); have z0 : w5.frozen? ⟨w.heap.size, k * 7, none⟩ = false := HO5.frozenAt (k * 7); have t1 : w5.cell? ⟨w.heap.size, k * 7 + 1, none⟩ = some (ys[k * 7 + 1]'(by omega)) := ((HO5.cellAt (k * 7 + 1) (by omega)).trans (List.getElem?_eq_getElem (by omega))); have z1 : w5.frozen? ⟨w.heap.size, k * 7 + 1, none⟩ = false := HO5.frozenAt (k * 7 + 1); have t2 : w5.cell? ⟨w.heap.size, k * 7 + 2, none⟩ = some (ys[k * 7 + 2]'(by omega)) := ((HO5.cellAt (k * 7 + 2) (by omega)).trans (List.getElem?_eq_getElem (by omega))); have z2 : w5.frozen? ⟨w.heap.size, k * 7 + 2, none⟩ = false := HO5.frozenAt (k * 7 + 2); have t3 : w5.cell? ⟨w.heap.size, k * 7 + 3, none⟩ = some (ys[k * 7 + 3]'(by omega)) := ((HO5.cellAt (k * 7 + 3) (by omega)).trans (List.getElem?_eq_getElem (by omega))); have z3 : w5.frozen? ⟨w.heap.size, k * 7 + 3, none⟩ = false := HO5.frozenAt (k * 7 + 3); have t4 : w5.cell? ⟨w.heap.size, k * 7 + 4, none⟩ = some (ys[k * 7 + 4]'(by omega)) := ((HO5.cellAt (k * 7 + 4) (by omega)).trans (List.getElem?_eq_getElem (by omega))); have z4 : w5.frozen? ⟨w.heap.size, k * 7 + 4, none⟩ = false := HO5.frozenAt (k * 7 + 4); have t5 : w5.cell? ⟨w.heap.size, k * 7 + 5, none⟩ = some (ys[k * 7 + 5]'(by omega)) := ((HO5.cellAt (k * 7 + 5) (by omega)).trans (List.getElem?_eq_getElem (by omega))); have z5 : w5.frozen? ⟨w.heap.size, k * 7 + 5, none⟩ = false := HO5.frozenAt (k * 7 + 5); have t6 : w5.cell? ⟨w.heap.size, k * 7 + 6, none⟩ = some (ys[k * 7 + 6]'(by omega)) := ((HO5.cellAt (k * 7 + 6) (by omega)).trans (List.getElem?_eq_getElem (by omega))); have z6 : w5.frozen? ⟨w.heap.size, k * 7 + 6, none⟩ = false := HO5.frozenAt (k * 7 + 6); have iO : InW w5 w.heap.size := (HO5.lt _ rfl).2; have HP := Lib.hid HO5; clear HO5)
      go_roundw
      case rel =>
        obtain ⟨z, ys', hz, p1, p2, p3⟩ := hold_round ((show Up w y.to from y.below).trans hx) HP.out HL.out HF.out hlt
        exact ⟨k + 1, z, ys', by omega, by go_num, hz, p1, p2, p3⟩
      case measure => simp [intOf]; omega
    · go_wp2
      go_ret
      exact ⟨_, rfl, y.below, ys, HO.out, HL.out, fun i hi => HF.out i (by omega)⟩
end Go.Proofs.Ytdeoampkbbbleaa
