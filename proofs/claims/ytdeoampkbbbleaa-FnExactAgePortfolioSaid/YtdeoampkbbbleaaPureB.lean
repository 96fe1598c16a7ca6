/- The plain arithmetic of prices: quotients that stay in range, the numerators and denominators of assurances. No program in sight. Conditions: a valid life table, a rate of at least 0. -/
import Derived.Test.YtdeoampkbbbleaaPure
namespace Go.Proofs.Ytdeoampkbbbleaa.Pu

theorem qd_nonneg {a b c : Int} (ha : 0 ≤ a) (hb : 0 ≤ b) (hc : 1 ≤ c) : 0 ≤ qd a b c := Int.ediv_nonneg (Int.mul_nonneg ha hb) (by omega)
theorem qd_le {a b c K : Int} (ha : 0 ≤ a) (hc : 1 ≤ c) (hb : b ≤ K * c) : qd a b c ≤ a * K := by
  unfold qd
  refine Int.ediv_le_of_le_mul (by omega) ?_
  rw [Int.mul_assoc]
  exact Int.mul_le_mul_of_nonneg_left hb ha
theorem rm_bd {a b c : Int} (hc : 1 ≤ c) : 0 ≤ rm a b c ∧ rm a b c < c := ⟨Int.emod_nonneg _ (by omega), Int.emod_lt_of_pos _ (by omega)⟩
/-- a times b over c, where b is at most 200 times c. -/
theorem qd_200 {a b c m : Int} (ha : 0 ≤ a) (ham : a ≤ m) (hb : 0 ≤ b) (hc : 1 ≤ c) (h : b ≤ 200 * c) : 0 ≤ qd a b c ∧ qd a b c ≤ 200 * m := by
  refine ⟨qd_nonneg ha hb hc, ?_⟩
  have := qd_le ha hc h
  omega
theorem up_bd {a b c : Int} (hc : 1 ≤ c) : qd a b c ≤ up a b c ∧ up a b c ≤ qd a b c + 1 := by
  have := rm_bd (a := a) (b := b) hc
  unfold up; omega

/-- The numerator of the value of an assurance at index k. -/
def Tab.top (T : Tab) (r kind : Int) (k n : Nat) : Int :=
  if kind = 0 then T.M r k else if kind = 1 then T.M r k - T.M r (k + n) else if kind = 2 then T.M r k - T.M r (k + n) + T.D r (k + n) else T.D r (k + n)
/-- The N by which a level premium is divided. -/
def Tab.base (T : Tab) (r kind : Int) (k n : Nat) : Int := if kind = 0 then T.N r k else T.N r k - T.N r (k + n)

section
set_option linter.unusedSectionVars false
variable {T : Tab} (h : T.Ok) {r : Int} (h0 : 0 ≤ r)
include h h0
theorem Tab.Ok.top_bd (kind : Int) (k n : Nat) : 0 ≤ T.top r kind k n ∧ T.top r kind k n ≤ 2 * T.D r k ∧ T.top r kind k n ≤ 2000000000000000 := by
  have m1 := h.M_bd h0 k; have m2 := h.M_bd h0 (k + n); have m3 := h.M_mono h0 k n
  have d1 := h.D_bd h0 k; have d2 := h.D_bd h0 (k + n); have d3 := h.D_le h0 k n
  unfold Tab.top
  split
  · omega
  · split
    · omega
    · split <;> omega
theorem Tab.Ok.base_bd (kind : Int) (k n : Nat) (hn : kind = 0 ∨ 1 ≤ n) : T.D r k ≤ T.base r kind k n ∧ T.base r kind k n ≤ 119 * T.D r k ∧ T.base r kind k n ≤ 119000000000000000 := by
  have n1 := h.N_bd h0 k; have d1 := h.D_bd h0 k
  unfold Tab.base
  split
  · have := h.D_le_N h0 k; omega
  · have n2 := h.N_bd h0 (k + n)
    have hs := h.N_step (r := r) k
    have hm := h.N_mono h0 (k + 1) (n - 1)
    rw [show k + 1 + (n - 1) = k + n from by omega] at hm
    omega
theorem Tab.Ok.base_nn (kind : Int) (k n : Nat) : 0 ≤ T.base r kind k n ∧ T.base r kind k n ≤ 119 * T.D r k ∧ T.base r kind k n ≤ 119000000000000000 := by
  have n1 := h.N_bd h0 k; have d1 := h.D_bd h0 k
  have n2 := h.N_bd h0 (k + n)
  have hm := h.N_mono h0 k n
  unfold Tab.base
  split <;> omega
end

/-! ### the joint table -/
/-- The first place from a on where g is 0, looked for in F places. -/
def fz (g : Nat → Int) : Nat → Nat → Nat
  | 0, a => a
  | F + 1, a => if g a = 0 then a else fz g F (a + 1)
theorem fz_spec (g : Nat → Int) (F : Nat) : ∀ a k0, a ≤ k0 → k0 ≤ a + F → g k0 = 0 → g (fz g F a) = 0 ∧ a ≤ fz g F a ∧ fz g F a ≤ k0 ∧ ∀ j, a ≤ j → j < fz g F a → g j ≠ 0 := by
  induction F with
  | zero =>
    intro a k0 h1 h2 h3
    obtain rfl : k0 = a := by omega
    exact ⟨h3, Nat.le_refl _, Nat.le_refl _, fun j h4 h5 => by simp only [fz] at h5; omega⟩
  | succ F ih =>
    intro a k0 h1 h2 h3
    simp only [fz]
    by_cases e : g a = 0
    · rw [if_pos e]; exact ⟨e, Nat.le_refl _, h1, fun j h4 h5 => by omega⟩
    · rw [if_neg e]
      have hne : a ≠ k0 := fun h => e (h ▸ h3)
      obtain ⟨p1, p2, p3, p4⟩ := ih (a + 1) k0 (by omega) (by omega) h3
      refine ⟨p1, by omega, p3, fun j h4 h5 => ?_⟩
      by_cases hj : j = a
      · rw [hj]; exact e
      · exact p4 j (by omega) h5

/-- The lives of two lives together. -/
def Tab.both (T U : Tab) (i j : Nat) (k : Nat) : Int := T.lv (i + k) * U.lv (j + k) / U.lv j
/-- The joint table of the lives at index i and j, from age x on. -/
def Tab.joint (T U : Tab) (x : Int) (i j : Nat) : Tab := ⟨x, fz (T.both U i j) T.n 0 + 1, T.both U i j⟩

section
set_option linter.unusedSectionVars false
variable {T U : Tab} (hT : T.Ok) (hU : U.Ok) {i j : Nat} (hi : i + 1 < T.n) (hj : j + 1 < U.n)
include hT hU hi hj

theorem Tab.Ok.both_zero : T.both U i j 0 = T.lv i := by
  have := hU.lv_pos hj
  unfold Tab.both
  exact Int.mul_ediv_cancel _ (by simp; omega)
theorem Tab.Ok.both_bd (k : Nat) : 0 ≤ T.both U i j k ∧ T.both U i j k ≤ T.lv (i + k) := by
  have h1 := hU.lv_pos hj
  have h2 := hT.lv_bd (i + k)
  have h3 := hU.lv_bd (j + k)
  have h4 := hU.lv_le j k
  unfold Tab.both
  refine ⟨Int.ediv_nonneg (Int.mul_nonneg h2.1 h3.1) (by omega), Int.ediv_le_of_le_mul (by omega) (Int.mul_le_mul_of_nonneg_left h4 h2.1)⟩
theorem Tab.Ok.both_mono (k : Nat) : T.both U i j (k + 1) ≤ T.both U i j k := by
  have h1 := hU.lv_pos hj
  have h2 := hT.lv_mono (i + k)
  have h3 := hU.lv_mono (j + k)
  have h4 := hT.lv_bd (i + k)
  unfold Tab.both
  exact Int.ediv_le_ediv (by omega) (Int.mul_le_mul h2.1 h3.1 h3.2 h4.1)
theorem Tab.Ok.both_out {k : Nat} (hk : T.n - 1 ≤ i + k) : T.both U i j k = 0 := by
  unfold Tab.both; rw [hT.end_ hk]; simp
theorem Tab.Ok.joint_spec : T.both U i j (fz (T.both U i j) T.n 0) = 0 ∧ 1 ≤ fz (T.both U i j) T.n 0 ∧ fz (T.both U i j) T.n 0 + i ≤ T.n - 1 ∧ ∀ k, k < fz (T.both U i j) T.n 0 → 1 ≤ T.both U i j k := by
  obtain ⟨p1, _, p3, p4⟩ := fz_spec (T.both U i j) T.n 0 (T.n - 1 - i) (by omega) (by omega) (hT.both_out hU hi hj (by omega))
  have hp : ∀ k, k < fz (T.both U i j) T.n 0 → 1 ≤ T.both U i j k := fun k hk => by
    have h1 := p4 k (by omega) hk
    have h2 := (hT.both_bd hU hi hj k).1
    omega
  refine ⟨p1, ?_, by omega, hp⟩
  rcases Nat.eq_zero_or_pos (fz (T.both U i j) T.n 0) with h | h
  · rw [h, hT.both_zero hU hi hj] at p1
    have := hT.lv_pos hi
    omega
  · exact h
theorem Tab.Ok.joint_ok {x : Int} (hx : x = T.first + i) (hx2 : x ≤ 100) : (T.joint U x i j).Ok := by
  obtain ⟨p1, p2, p3, p4⟩ := hT.joint_spec hU hi hj
  have q1 := hT.lo; have q2 := hT.n120; have q3 := hT.fin
  refine ⟨by show 0 ≤ x; omega, hx2, by show 2 ≤ fz _ _ _ + 1; omega, by show fz _ _ _ + 1 ≤ 120; omega, ?_, ?_, ?_, ?_, ?_⟩
  · show T.both U i j 0 ≤ 1000000
    rw [hT.both_zero hU hi hj]; exact (hT.lv_bd i).2
  · exact p1
  · show x + ((fz (T.both U i j) T.n 0 + 1 : Nat) : Int) ≤ 151
    omega
  · intro k hk
    have hk : k + 1 < fz (T.both U i j) T.n 0 + 1 := hk
    exact p4 k (by omega)
  · intro k _
    exact hT.both_mono hU hi hj k
theorem Tab.Ok.joint_top (x : Int) : (T.joint U x i j).lv 0 = T.lv i := by
  rw [Tab.lv_in (by show 0 < fz _ _ _ + 1; omega)]
  exact hT.both_zero hU hi hj
theorem Tab.Ok.joint_D (x r : Int) : 1 ≤ (T.joint U x i j).D r 0 := by
  unfold Tab.D
  rw [hT.joint_top hU hi hj]
  have := hT.lv_pos hi
  simp only [disc]
  omega
end
end Go.Proofs.Ytdeoampkbbbleaa.Pu
