/- The laws' helper that copies holdings. Condition: at most 1048576 holdings. -/
import Derived.Test.YtdeoampkbbbleaaHold
namespace Go.Proofs.Ytdeoampkbbbleaa
open Go.RowKit Pu
set_option linter.unusedVariables false
set_option linter.unusedSimpArgs false

/-- A copy of holdings is returned. -/
def RetH (w : World) (n : Nat) (g : Nat → Nat → Int) (e : Ending) (w' : World) : Prop := ∃ v, e = .returned v ∧ Up w w' ∧ HAt w' v n g
/-- The round's end: the holding is laid. -/
theorem hold_round {w w5 : World} {n k : Nat} {ys : List Value} {g : Nat → Nat → Int} (hx : Up w w5) (ho : w5.ownsRow w.heap.size 113 7 (.slice (some ⟨w.heap.size, 0, none⟩) n n) n ys) (hl : ys.length = n * 7)
    (hf : ∀ i, i < k → ∀ j, j < 7 → ys[i * 7 + j]? = some (.int .i64 (g i j))) (hk : k < n) :
    ∃ (z : Grow w) (ys' : List Value), (((((((w5.setCell ⟨w.heap.size, k * 7, none⟩ (.int .i64 (g k 0))).setCell ⟨w.heap.size, k * 7 + 1, none⟩ (.int .i64 (g k 1))).setCell ⟨w.heap.size, k * 7 + 2, none⟩ (.int .i64 (g k 2))).setCell ⟨w.heap.size, k * 7 + 3, none⟩ (.int .i64 (g k 3))).setCell ⟨w.heap.size, k * 7 + 4, none⟩ (.int .i64 (g k 4))).setCell ⟨w.heap.size, k * 7 + 5, none⟩ (.int .i64 (g k 5))).setCell ⟨w.heap.size, k * 7 + 6, none⟩ (.int .i64 (g k 6))) = z.to ∧ z.to.ownsRow w.heap.size 113 7 (.slice (some ⟨w.heap.size, 0, none⟩) n n) n ys' ∧ ys'.length = n * 7 ∧ ∀ i, i < k + 1 → ∀ j, j < 7 → ys'[i * 7 + j]? = some (.int .i64 (g i j)) := by
  have u := (Up.setCell (Up.setCell (Up.setCell (Up.setCell (Up.setCell (Up.setCell (Up.setCell hx (p := ⟨w.heap.size, k * 7, none⟩) (Nat.le_refl _) (.int .i64 (g k 0))) (p := ⟨w.heap.size, k * 7 + 1, none⟩) (Nat.le_refl _) (.int .i64 (g k 1))) (p := ⟨w.heap.size, k * 7 + 2, none⟩) (Nat.le_refl _) (.int .i64 (g k 2))) (p := ⟨w.heap.size, k * 7 + 3, none⟩) (Nat.le_refl _) (.int .i64 (g k 3))) (p := ⟨w.heap.size, k * 7 + 4, none⟩) (Nat.le_refl _) (.int .i64 (g k 4))) (p := ⟨w.heap.size, k * 7 + 5, none⟩) (Nat.le_refl _) (.int .i64 (g k 5))) (p := ⟨w.heap.size, k * 7 + 6, none⟩) (Nat.le_refl _) (.int .i64 (g k 6)))
  obtain ⟨z, hz⟩ := Grow.mk' (show Below w.heap.size w _ from u)
  have o := (((((((ho.stored (k * 7) (.int .i64 (g k 0))).1.stored (k * 7 + 1) (.int .i64 (g k 1))).1.stored (k * 7 + 2) (.int .i64 (g k 2))).1.stored (k * 7 + 3) (.int .i64 (g k 3))).1.stored (k * 7 + 4) (.int .i64 (g k 4))).1.stored (k * 7 + 5) (.int .i64 (g k 5))).1.stored (k * 7 + 6) (.int .i64 (g k 6))).1
  rw [hz] at o
  refine ⟨z, _, hz, o, by simp [hl], fun i hi j hj => ?_⟩
  clear o hz u ho hx
  by_cases e : i = k
  · subst e
    have hc : j = 0 ∨ j = 1 ∨ j = 2 ∨ j = 3 ∨ j = 4 ∨ j = 5 ∨ j = 6 := by omega
    rcases hc with rfl | rfl | rfl | rfl | rfl | rfl | rfl <;> simp [List.getElem?_set, hl] <;> omega
  · rw [List.getElem?_set_ne (by omega), List.getElem?_set_ne (by omega), List.getElem?_set_ne (by omega), List.getElem?_set_ne (by omega), List.getElem?_set_ne (by omega), List.getElem?_set_ne (by omega), List.getElem?_set_ne (by omega)]
    exact hf i (by omega) j hj
set_option maxRecDepth 100000 in
set_option maxHeartbeats 4000000 in
theorem l_CopyH (A : Option Addr) (n c : Nat) (g : Nat → Nat → Int) (hn : n ≤ 1048576) (w : World) (hI : HInts w A n g) :
    Calls Try.prog 22 #[.slice A n c] w (RetH w n g) := by
  obtain ⟨i0, hi, hz0, hz1, hz2⟩ := info_parts infoHold
  go_enter Try.func22, Try.ntmps22
  go_wp2_with (at_make; refine wpList_make_full _ rfl _ _ _ rfl w.heap.size 113 i0 (.agg #[.int .i64 0, .int .i64 0, .int .i64 0, .int .i64 0, .int .i64 0, .int .i64 0, .int .i64 0]) 7 Try.underlying35 hi hz0 hz1 .i64 .i64 n n n rfl rfl rfl rfl (by rw [hz2]; omega) (by unfold maxLen; omega) (Nat.le_refl _) ?_; intro w1 hown hgrow)
  clear hi hz0 hz1 hz2
  have hb : Below w.heap.size w w1 := (Below.refl _ _).grown hgrow (Nat.le_refl _) (fun k hk => by cases hk)
  obtain ⟨x, rfl⟩ := Grow.mk' hb
  go_loopw [4] (fun i wr => ∃ (k : Nat) (y : Grow w) (ys : List Value), k ≤ n ∧ i = .int .i64 k ∧ wr = y.to ∧ y.to.ownsRow w.heap.size 113 7 (.slice (some ⟨w.heap.size, 0, none⟩) n n) n ys ∧ ys.length = n * 7 ∧ ∀ i, i < k → ∀ j, j < 7 → ys[i * 7 + j]? = some (.int .i64 (g i j))) (fun i _ => n - (intOf i).toNat)
  case atStart => exact ⟨0, x, _, Nat.zero_le _, rfl, rfl, hown, by have := hown.1; simpa using this, fun j hj => by omega⟩
  case round =>
    clear hown hgrow hb x
    obtain ⟨k, y, ys, hk, rfl, rfl, hown, hl, hf⟩ := hrel
    have HO := Lib.hid hown
    have HF := Lib.hid hf
    have HL := Lib.hid hl
    clear hown hf hl
    by_cases hlt : k < n
    · obtain ⟨b, off, rfl, hlb, e0, e1, e2, e3, e4, e5, e6⟩ := (hI.up y.below).seven hlt
      have hlen : k * 7 + 6 < ys.length := by rw [HL.out]; omega
      go_wp2_with (go_at_call 144; (with_reducible refine (l_CopyHol _ _ _ _ _ _ _ _).mono ?_); rintro e w5 ⟨rfl, hx⟩; have HO5 := World.ownsRow.kept HO.out (grownBy_up hx) (by simp [Value.ownBlock]); have t0 : w5.cell? ⟨w.heap.size, k * 7, none⟩ = some (ys[k * 7]'(by omega)) := ((HO5.cellAt (k * 7) (by omega)).trans (List.getElem?_eq_getElem (by omega))); have z0 : w5.frozen? ⟨w.heap.size, k * 7, none⟩ = false := HO5.frozenAt (k * 7); have t1 : w5.cell? ⟨w.heap.size, k * 7 + 1, none⟩ = some (ys[k * 7 + 1]'(by omega)) := ((HO5.cellAt (k * 7 + 1) (by omega)).trans (List.getElem?_eq_getElem (by omega))); have z1 : w5.frozen? ⟨w.heap.size, k * 7 + 1, none⟩ = false := HO5.frozenAt (k * 7 + 1); have t2 : w5.cell? ⟨w.heap.size, k * 7 + 2, none⟩ = some (ys[k * 7 + 2]'(by omega)) := ((HO5.cellAt (k * 7 + 2) (by omega)).trans (List.getElem?_eq_getElem (by omega))); have z2 : w5.frozen? ⟨w.heap.size, k * 7 + 2, none⟩ = false := HO5.frozenAt (k * 7 + 2); have t3 : w5.cell? ⟨w.heap.size, k * 7 + 3, none⟩ = some (ys[k * 7 + 3]'(by omega)) := ((HO5.cellAt (k * 7 + 3) (by omega)).trans (List.getElem?_eq_getElem (by omega))); have z3 : w5.frozen? ⟨w.heap.size, k * 7 + 3, none⟩ = false := HO5.frozenAt (k * 7 + 3); have t4 : w5.cell? ⟨w.heap.size, k * 7 + 4, none⟩ = some (ys[k * 7 + 4]'(by omega)) := ((HO5.cellAt (k * 7 + 4) (by omega)).trans (List.getElem?_eq_getElem (by omega))); have z4 : w5.frozen? ⟨w.heap.size, k * 7 + 4, none⟩ = false := HO5.frozenAt (k * 7 + 4); have t5 : w5.cell? ⟨w.heap.size, k * 7 + 5, none⟩ = some (ys[k * 7 + 5]'(by omega)) := ((HO5.cellAt (k * 7 + 5) (by omega)).trans (List.getElem?_eq_getElem (by omega))); have z5 : w5.frozen? ⟨w.heap.size, k * 7 + 5, none⟩ = false := HO5.frozenAt (k * 7 + 5); have t6 : w5.cell? ⟨w.heap.size, k * 7 + 6, none⟩ = some (ys[k * 7 + 6]'(by omega)) := ((HO5.cellAt (k * 7 + 6) (by omega)).trans (List.getElem?_eq_getElem (by omega))); have z6 : w5.frozen? ⟨w.heap.size, k * 7 + 6, none⟩ = false := HO5.frozenAt (k * 7 + 6); have iO : InW w5 w.heap.size := (HO5.lt _ rfl).2; have HP := Lib.hid HO5; clear HO5)
      go_roundw
      case rel =>
        obtain ⟨z, ys', hz, p1, p2, p3⟩ := hold_round ((show Up w y.to from y.below).trans hx) HP.out HL.out HF.out hlt
        exact ⟨k + 1, z, ys', by omega, by go_num, hz, p1, p2, p3⟩
      case measure => simp [intOf]; omega
    · go_wp2
      go_ret
      refine ⟨_, rfl, y.below, _, _, rfl, Nat.le_refl _, by omega, fun i hi => ⟨w.heap.size, 0, rfl, (HO.out.lt _ rfl).2, fun j hj => ?_⟩⟩
      rw [Nat.zero_add, HO.out.cellAt (i * 7 + j) (by omega)]
      exact HF.out i (by omega) j hj
end Go.Proofs.Ytdeoampkbbbleaa
