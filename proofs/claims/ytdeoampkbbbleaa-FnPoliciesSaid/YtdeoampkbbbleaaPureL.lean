/- The plain arithmetic of the laws over draws: prices that add up, amounts for prices. No program in sight. Conditions: a valid life table, a rate of at least 0. -/
import Derived.Test.YtdeoampkbbbleaaPureP
namespace Go.Proofs.Ytdeoampkbbbleaa.Pu

theorem up_spec {a b c : Int} (hc : 1 ≤ c) : a * b ≤ up a b c * c ∧ up a b c * c ≤ a * b + (c - 1) := by
  have e := Int.mul_ediv_add_emod (a * b) c
  have h1 := Int.emod_nonneg (a * b) (b := c) (by omega)
  have h2 := Int.emod_lt_of_pos (a * b) (b := c) (by omega)
  unfold up qd rm
  generalize a * b = A at *
  generalize A / c = Q at *
  generalize A % c = R at *
  rw [Int.mul_comm] at e
  by_cases hz : R = 0
  · rw [hz, show min (1 : Int) 0 = 0 from rfl, Int.add_zero]; omega
  · rw [show min 1 R = 1 from by omega, Int.add_mul]; omega
theorem lt_mul {x y c : Int} (hc : 1 ≤ c) (h : x * c < y * c) : x < y := Int.lt_of_mul_lt_mul_right h (by omega)
/-- A price of two parts. -/
theorem up_parts {m A B c : Int} (hc : 1 ≤ c) : 0 ≤ up m A c + up m B c - up m (A + B) c ∧ up m A c + up m B c - up m (A + B) c ≤ 1 := by
  have h1 := up_spec (a := m) (b := A) hc
  have h2 := up_spec (a := m) (b := B) hc
  have h3 := up_spec (a := m) (b := A + B) hc
  rw [Int.mul_add] at h3
  generalize up m A c = x at *
  generalize up m B c = y at *
  generalize up m (A + B) c = z at *
  have e1 := lt_mul (x := z) (y := x + y + 1) hc (by rw [Int.add_mul, Int.add_mul]; omega)
  have e2 := lt_mul (x := x + y) (y := z + 2) hc (by rw [Int.add_mul, Int.add_mul]; omega)
  omega
theorem up_nonneg {m A c : Int} (hc : 1 ≤ c) (hm : 0 ≤ m) (hA : 0 ≤ A) : 0 ≤ up m A c := by
  have h1 := up_spec (a := m) (b := A) hc
  have h2 : 0 ≤ m * A := Int.mul_nonneg hm hA
  have e := lt_mul (x := -1) (y := up m A c) hc (by omega)
  omega
theorem up_le_mul {m A c n : Int} (hc : 1 ≤ c) (hm : 0 ≤ m) (hA : A ≤ n * c) : up m A c ≤ m * n := by
  have h1 := up_spec (a := m) (b := A) hc
  have h2 : m * A ≤ m * (n * c) := Int.mul_le_mul_of_nonneg_left hA hm
  have e := lt_mul (x := up m A c) (y := m * n + 1) hc (by rw [Int.add_mul, Int.mul_assoc]; omega)
  omega
/-- A price over a greater divisor is at most as great. -/
theorem up_anti {m A c d : Int} (hc : 1 ≤ c) (hd : c ≤ d) (hm : 0 ≤ m) (hA : 0 ≤ A) : up m A d ≤ up m A c := by
  have h1 := up_spec (a := m) (b := A) hc
  have h2 := up_spec (a := m) (b := A) (c := d) (by omega)
  have h3 := up_nonneg hc hm hA
  have h4 : up m A c * c ≤ up m A c * d := Int.mul_le_mul_of_nonneg_left hd h3
  have e := lt_mul (x := up m A d) (y := up m A c + 1) (c := d) (by omega) (by rw [Int.add_mul]; omega)
  omega
/-- One more than the amount for a price costs more; the amount costs at most the price. -/
theorem amt_more {p D N : Int} (hD : 1 ≤ D) (hN : 1 ≤ N) : p < up (qd p D N + 1) N D := by
  have h1 := up_spec (a := qd p D N + 1) (b := N) hD
  have e := Int.mul_ediv_add_emod (p * D) N
  have h2 := Int.emod_lt_of_pos (p * D) (b := N) (by omega)
  have h3 : (qd p D N + 1) * N = N * (p * D / N) + N := by unfold qd; rw [Int.add_mul, Int.mul_comm]; omega
  exact lt_mul hD (by omega)
theorem amt_own {p D N : Int} (hD : 1 ≤ D) (hN : 1 ≤ N) : up (qd p D N) N D ≤ p := by
  have h1 := up_spec (a := qd p D N) (b := N) hD
  have e := Int.mul_ediv_add_emod (p * D) N
  have h2 := Int.emod_nonneg (p * D) (b := N) (by omega)
  have h3 : qd p D N * N = N * (p * D / N) := by unfold qd; rw [Int.mul_comm]
  have := lt_mul (x := up (qd p D N) N D) (y := p + 1) hD (by rw [Int.add_mul]; omega)
  omega
theorem Tab.Ok.N_diff {T : Tab} (h : T.Ok) {r : Int} (h0 : 0 ≤ r) (k n : Nat) : 0 ≤ T.N r k - T.N r (k + n) ∧ T.N r k - T.N r (k + n) ≤ n * T.D r k := by
  induction n with
  | zero => simp
  | succ n ih =>
    have h1 := h.N_step (r := r) (k + n); have h2 := h.D_bd h0 (k + n); have h3 := h.D_le h0 k n
    have e : ((n + 1 : Nat) : Int) * T.D r k = n * T.D r k + T.D r k := by rw [Int.natCast_add, Int.add_mul]; simp
    rw [e, show k + (n + 1) = k + n + 1 from by omega]
    omega
theorem Tab.Ok.N_whole {T : Tab} (h : T.Ok) {r : Int} (h0 : 0 ≤ r) (k : Nat) : T.N r k ≤ ((T.n - 1 - k : Nat) : Int) * T.D r k := by
  have h1 := (h.N_diff h0 k (T.n - 1 - k)).2
  have h2 := h.N_end (r := r) (k := k + (T.n - 1 - k)) (by omega)
  omega
/-- The gain of the rounding is less than one denominator a payment. -/
theorem PK.gain_lt {T : Tab} {r kind : Int} {k n : Nat} {m ld : Int} (h : PK T r kind k n m ld) : 0 ≤ T.gain r kind k n m / T.D r k ∧ T.gain r kind k n m / T.D r k < T.dur kind k n ∧ 0 ≤ T.gain r kind k n m % T.D r k := by
  have g := h.gain_bd; have d := h.d0
  have hb : T.base r kind k n ≤ (T.dur kind k n : Int) * T.D r k := by
    unfold Tab.base Tab.dur
    split
    · exact h.hT.N_whole h.h0 k
    · exact (h.hT.N_diff h.h0 k n).2
  refine ⟨Int.ediv_nonneg g.1 (by omega), Int.ediv_lt_of_lt_mul (by omega) (by omega), Int.emod_nonneg _ (by omega)⟩
theorem cdiv_spec {a : Int} (ha : 0 ≤ a) : 0 ≤ cdiv a 1000 ∧ a ≤ 1000 * cdiv a 1000 ∧ 1000 * (cdiv a 1000 - 1) < a := by
  unfold cdiv; omega
/-- The sums of the columns. -/
theorem Tab.Ok.sum_D {T : Tab} (h : T.Ok) (r : Int) : S (T.D r) 0 T.n = T.N r 0 := by
  have hn := h.n2
  obtain ⟨m, hm⟩ : ∃ m, T.n = m + 1 := ⟨T.n - 1, by omega⟩
  have hz := h.D_end (r := r) (k := 0 + m) (by omega)
  unfold Tab.N; rw [hm, S_succ, hz, show m + 1 - 1 - 0 = m from by omega]; omega
theorem Tab.Ok.sum_C {T : Tab} (h : T.Ok) (r : Int) : S (T.C r) 0 T.n = T.M r 0 := by
  have hn := h.n2
  obtain ⟨m, hm⟩ : ∃ m, T.n = m + 1 := ⟨T.n - 1, by omega⟩
  have hz := h.C_end (r := r) (k := 0 + m) (by omega)
  unfold Tab.M; rw [hm, S_succ, hz, show m + 1 - 1 - 0 = m from by omega]; omega
end Go.Proofs.Ytdeoampkbbbleaa.Pu
