/- The plain arithmetic of reserves in lists, of leaving and of searching. No program in sight. Conditions: a valid life table, a rate of at least 0. -/
import Derived.Test.YtdeoampkbbbleaaPureP
namespace Go.Proofs.Ytdeoampkbbbleaa.Pu

/-- Whether D is never 0 in the first j years. -/
def wh (T : Tab) (r : Int) (k : Nat) : Nat → Bool
  | 0 => true
  | j + 1 => wh T r k j && decide (T.D r (k + j) ≠ 0)
theorem wh_succ (T : Tab) (r : Int) (k j : Nat) : wh T r k (j + 1) = (wh T r k j && decide (T.D r (k + j) ≠ 0)) := rfl
theorem wh_iff {T : Tab} {r : Int} {k j : Nat} : wh T r k j = true ↔ ∀ i, i < j → T.D r (k + i) ≠ 0 := by
  induction j with
  | zero => simp [wh]
  | succ j ih =>
    rw [wh_succ, Bool.and_eq_true, ih, decide_eq_true_eq]
    constructor
    · rintro ⟨h1, h2⟩ i hi
      rcases Nat.lt_or_ge i j with h | h
      · exact h1 i h
      · rw [show i = j from by omega]; exact h2
    · intro h; exact ⟨fun i hi => h i (by omega), h j (by omega)⟩
/-- An element of the list of reserves. -/
def Tab.rg (T : Tab) (r kind : Int) (k n : Nat) (m : Int) (j : Nat) : Int := if T.D r (k + j) = 0 then -1 else T.res r kind k n m j
section
set_option linter.unusedSectionVars false
variable {T : Tab} {r kind : Int} {k n : Nat} {m ld : Int} (h : PK T r kind k n m ld)
include h
theorem PK.d_pos {j : Nat} (hd : T.D r (k + j) ≠ 0) : 1 ≤ T.D r (k + j) := by have := (h.hT.D_bd h.h0 (k + j)).1; omega
theorem PK.rg_bd (j : Nat) : -1 ≤ T.rg r kind k n m j ∧ T.rg r kind k n m j ≤ 20000000001 ∧ (T.rg r kind k n m j < 0 ↔ T.D r (k + j) = 0) := by
  unfold Tab.rg
  by_cases hd : T.D r (k + j) = 0
  · rw [if_pos hd]; simp [hd]
  · rw [if_neg hd]
    have := h.res_bd j (h.d_pos hd)
    refine ⟨by omega, by omega, by omega, fun e => absurd e hd⟩
/-- D is 0 at the end if it is anywhere before. -/
theorem PK.wh_last {j i : Nat} (hi : i < j) (hd : T.D r (k + i) = 0) : wh T r k j = false := by
  rw [Bool.eq_false_iff]; intro e; exact wh_iff.1 e i hi hd
theorem PK.wh_mono {i j : Nat} (hij : i ≤ j) (hd : T.D r (k + i) = 0) : T.D r (k + j) = 0 := by
  have h1 := h.hT.D_le h.h0 (k + i) (j - i)
  have h2 := (h.hT.D_bd h.h0 (k + j)).1
  rw [show k + i + (j - i) = k + j from by omega, hd] at h1
  omega
end

/-- The first greatest place among the first j. -/
def bst (g : Nat → Int) : Nat → Nat
  | 0 => 0
  | j + 1 => if g (bst g j) < g j then j else bst g j
theorem bst_succ (g : Nat → Int) (j : Nat) : bst g (j + 1) = if g (bst g j) < g j then j else bst g j := rfl
theorem bst_lt (g : Nat → Int) (j : Nat) : bst g j < j ∨ (j = 0 ∧ bst g j = 0) := by
  induction j with
  | zero => exact Or.inr ⟨rfl, rfl⟩
  | succ j ih => rw [bst_succ]; split <;> omega

/-! ### leaving -/
def Tab.sv (T : Tab) (r kind : Int) (k n : Nat) (m : Int) (j : Nat) : Int := T.res r kind k n m j * 900 / 1000
def Tab.bv (T : Tab) (r kind : Int) (k n : Nat) (m ld : Int) (j : Nat) : Int := T.sv r kind k n m j - j * officeV (T.net r kind k n m) ld
/-- The best year of leaving among t years from the second on, and what it brings; -1 if there is none. -/
def bl (v : Nat → Int) : Nat → Int × Int
  | 0 => (-1, 0)
  | t + 1 => if (bl v t).1 < 0 ∨ (bl v t).2 < v (t + 2) then (((t + 2 : Nat) : Int), v (t + 2)) else bl v t
theorem bl_succ (v : Nat → Int) (t : Nat) : bl v (t + 1) = if (bl v t).1 < 0 ∨ (bl v t).2 < v (t + 2) then (((t + 2 : Nat) : Int), v (t + 2)) else bl v t := rfl
theorem bl_bd (v : Nat → Int) (t : Nat) : (t = 0 ∧ bl v t = (-1, 0)) ∨ (1 ≤ t ∧ 2 ≤ (bl v t).1 ∧ (bl v t).1 ≤ t + 1) := by
  induction t with
  | zero => exact Or.inl ⟨rfl, rfl⟩
  | succ t ih =>
    refine Or.inr ⟨by omega, ?_⟩
    rw [bl_succ]
    split
    · simp; omega
    · rename_i hn
      rcases ih with ⟨h1, h2⟩ | ⟨h1, h2, h3⟩
      · rw [h2] at hn; simp at hn
      · omega
theorem bl_none {v : Nat → Int} {t : Nat} (ht : 1 ≤ t) : ¬ (bl v t).1 < 0 := by
  rcases bl_bd v t with ⟨h1, _⟩ | ⟨_, h2, _⟩ <;> omega

/-- The greatest number from 1 to M for which p holds, or 0. -/
def ky (p : Nat → Bool) : Nat → Nat
  | 0 => 0
  | m + 1 => if p (m + 1) then m + 1 else ky p m
theorem ky_succ (p : Nat → Bool) (m : Nat) : ky p (m + 1) = if p (m + 1) then m + 1 else ky p m := rfl
theorem ky_le (p : Nat → Bool) (m : Nat) : ky p m ≤ m := by
  induction m with
  | zero => exact Nat.le_refl _
  | succ m ih => rw [ky_succ]; split <;> omega

/-- Search by halves: the number where the search for g ends. -/
def bs (g : Int → Bool) : Nat → Int → Int → Int
  | 0, lo, _ => lo
  | f + 1, lo, hi => if lo < hi then (if g ((lo + hi + 1) / 2) then bs g f ((lo + hi + 1) / 2) hi else bs g f lo ((lo + hi + 1) / 2 - 1)) else lo
theorem bs_succ (g : Int → Bool) (f : Nat) (lo hi : Int) : bs g (f + 1) lo hi = if lo < hi then (if g ((lo + hi + 1) / 2) then bs g f ((lo + hi + 1) / 2) hi else bs g f lo ((lo + hi + 1) / 2 - 1)) else lo := rfl
theorem bs_end (g : Int → Bool) (f : Nat) {lo hi : Int} (h : hi ≤ lo) : bs g f lo hi = lo := by
  cases f with
  | zero => rfl
  | succ f => rw [bs_succ, if_neg (by omega)]

section
set_option linter.unusedSectionVars false
variable {T : Tab} {r kind : Int} {k n : Nat} {m ld : Int} (h : PK T r kind k n m ld)
include h
theorem PK.office_bd : 0 ≤ officeV (T.net r kind k n m) ld ∧ officeV (T.net r kind k n m) ld ≤ 50000000000 ∧ 0 ≤ T.net r kind k n m * ld ∧ T.net r kind k n m * ld ≤ 20000000001000 := by
  have b := h.net_bd
  have l1 := h.l1; have l2 := h.l2
  have p1 : 0 ≤ T.net r kind k n m * ld := Int.mul_nonneg b.1 l1
  have p2 : T.net r kind k n m * ld ≤ 20000000001 * 1000 := Int.mul_le_mul b.2 l2 l1 (by omega)
  unfold officeV cdiv
  generalize T.net r kind k n m * ld = P at *
  omega
theorem PK.sv_bd (j : Nat) (hd : 1 ≤ T.D r (k + j)) : 0 ≤ T.sv r kind k n m j ∧ T.sv r kind k n m j ≤ T.res r kind k n m j ∧ T.sv r kind k n m j ≤ 20000000001 := by
  have b := h.res_bd j hd
  unfold Tab.sv; omega
/-- The paid-up sum's quotient stays in range. -/
theorem PK.paid_bd (j : Nat) (hd : 1 ≤ T.D r (k + j)) (ht : 1 ≤ T.top r kind (k + j) (n - j)) :
    qd (T.sv r kind k n m j) (T.D r (k + j)) (T.top r kind (k + j) (n - j)) ≤ 1000000000000000000 := by
  have b := h.sv_bd j hd
  have p := h.fw_parts j hd
  have e := h.fw_eq j hd
  have f := h.fq_bd j hd
  have d := h.hT.D_bd h.h0 (k + j)
  have m1 := h.m1; have m2 := h.m2
  have hres : T.res r kind k n m j ≤ qd m (T.top r kind (k + j) (n - j)) (T.D r (k + j)) + 1 := by
    unfold Tab.res
    rw [e.1]
    split <;> omega
  have hq : qd m (T.top r kind (k + j) (n - j)) (T.D r (k + j)) * T.D r (k + j) ≤ m * T.top r kind (k + j) (n - j) := by unfold qd; exact Int.ediv_mul_le _ (by omega)
  generalize T.sv r kind k n m j = V at *
  generalize T.top r kind (k + j) (n - j) = N at *
  generalize T.D r (k + j) = D at *
  generalize qd m N D = Q at *
  have h1 : V * D ≤ (Q + 1) * D := Int.mul_le_mul_of_nonneg_right (by omega) (by omega)
  rw [Int.add_mul] at h1
  have h2 : D * 1 ≤ D * N := Int.mul_le_mul_of_nonneg_left ht (by omega)
  have h3 : V * D ≤ (m + D) * N := by rw [Int.add_mul]; omega
  unfold qd
  refine Int.ediv_le_of_le_mul (by omega) (Int.le_trans h3 ?_)
  exact Int.mul_le_mul_of_nonneg_right (by omega) (by omega)
end
end Go.Proofs.Ytdeoampkbbbleaa.Pu
