/- The plain arithmetic of life tables, discounts and columns: sums, bounds, rounded quotients. No program in sight. Conditions: those of a valid life table (Tab.Ok) and of a rate from 0 to 200. -/
import GoSem.Claim
namespace Go.Proofs.Ytdeoampkbbbleaa.Pu

/-! ### sums -/
/-- The sum of m values of g from a on. -/
def S (g : Nat → Int) (a : Nat) : Nat → Int
  | 0 => 0
  | m + 1 => S g a m + g (a + m)

theorem S_zero' (g : Nat → Int) (a : Nat) : S g a 0 = 0 := rfl
theorem S_succ (g : Nat → Int) (a m : Nat) : S g a (m + 1) = S g a m + g (a + m) := rfl

theorem S_front (g : Nat → Int) (a m : Nat) : S g a (m + 1) = g a + S g (a + 1) m := by
  induction m with
  | zero => simp [S]
  | succ m ih => rw [S_succ, ih, S_succ, show a + 1 + m = a + (m + 1) from by omega]; omega

theorem S_bounds (g : Nat → Int) (a m : Nat) (c : Int) (h : ∀ j, j < m → 0 ≤ g (a + j) ∧ g (a + j) ≤ c) : 0 ≤ S g a m ∧ S g a m ≤ m * c := by
  induction m with
  | zero => simp [S]
  | succ m ih =>
    have h1 := ih fun j hj => h j (by omega)
    have h2 := h m (by omega)
    rw [S_succ]
    have : ((m + 1 : Nat) : Int) * c = m * c + c := by rw [Int.natCast_add, Int.add_mul]; simp
    omega

theorem S_nonneg (g : Nat → Int) (a m : Nat) (h : ∀ j, 0 ≤ g j) : 0 ≤ S g a m := by
  induction m with
  | zero => simp [S]
  | succ m ih => rw [S_succ]; have := h (a + m); omega

theorem S_none (g : Nat → Int) (a m : Nat) (h : ∀ j, j < m → g (a + j) = 0) : S g a m = 0 := by
  induction m with
  | zero => rfl
  | succ m ih => rw [S_succ, ih fun j hj => h j (by omega), h m (by omega)]; rfl

theorem S_split (g : Nat → Int) (a m k : Nat) : S g a (m + k) = S g a m + S g (a + m) k := by
  induction k with
  | zero => simp [S]
  | succ k ih => rw [show m + (k + 1) = (m + k) + 1 from by omega, S_succ, ih, S_succ, show a + (m + k) = a + m + k from by omega]; omega

theorem S_congr (g h : Nat → Int) (a m : Nat) (e : ∀ j, j < m → g (a + j) = h (a + j)) : S g a m = S h a m := by
  induction m with
  | zero => rfl
  | succ m ih => rw [S_succ, S_succ, ih fun j hj => e j (by omega), e m (by omega)]

/-! ### tables -/
structure Tab where
  first : Int
  n : Nat
  f : Nat → Int

structure Tab.Ok (T : Tab) : Prop where
  lo : 0 ≤ T.first
  hi : T.first ≤ 100
  n2 : 2 ≤ T.n
  n120 : T.n ≤ 120
  top : T.f 0 ≤ 1000000
  last : T.f (T.n - 1) = 0
  fin : T.first + T.n ≤ 151
  pos : ∀ i, i + 1 < T.n → 1 ≤ T.f i
  mono : ∀ i, i + 1 < T.n → T.f (i + 1) ≤ T.f i

open Classical in
noncomputable def Tab.okB (T : Tab) : Bool := decide T.Ok
theorem Tab.okB_iff (T : Tab) : T.okB = true ↔ T.Ok := by unfold Tab.okB; simp
theorem Tab.okB_false (T : Tab) : T.okB = false ↔ ¬ T.Ok := by unfold Tab.okB; simp

/-- The lives at index k (the age less the first age). -/
def Tab.lv (T : Tab) (k : Nat) : Int := if k < T.n then T.f k else 0

theorem Tab.lv_in {T : Tab} {k : Nat} (h : k < T.n) : T.lv k = T.f k := by simp [Tab.lv, h]
theorem Tab.lv_out {T : Tab} {k : Nat} (h : T.n ≤ k) : T.lv k = 0 := by simp only [Tab.lv]; rw [if_neg (by omega)]

theorem Tab.Ok.end_ {T : Tab} (h : T.Ok) {k : Nat} (hk : T.n - 1 ≤ k) : T.lv k = 0 := by
  have := h.n2
  by_cases hlt : k < T.n
  · rw [Tab.lv_in hlt, show k = T.n - 1 from by omega]; exact h.last
  · exact Tab.lv_out (by omega)

theorem Tab.Ok.lv_mono {T : Tab} (h : T.Ok) (k : Nat) : T.lv (k + 1) ≤ T.lv k ∧ 0 ≤ T.lv (k + 1) := by
  have hn := h.n2
  by_cases h1 : k + 1 < T.n
  · rw [Tab.lv_in h1, Tab.lv_in (by omega : k < T.n)]
    refine ⟨h.mono k h1, ?_⟩
    by_cases h2 : k + 2 < T.n
    · have := h.pos (k + 1) h2; omega
    · rw [show k + 1 = T.n - 1 from by omega, h.last]; exact Int.le_refl _
  · rw [h.end_ (by omega : T.n - 1 ≤ k + 1)]
    refine ⟨?_, Int.le_refl _⟩
    by_cases h2 : k + 1 = T.n
    · rw [h.end_ (by omega : T.n - 1 ≤ k)]; exact Int.le_refl _
    · rw [Tab.lv_out (by omega : T.n ≤ k)]; exact Int.le_refl _

theorem Tab.Ok.lv_bd {T : Tab} (h : T.Ok) (k : Nat) : 0 ≤ T.lv k ∧ T.lv k ≤ 1000000 := by
  have hn := h.n2
  have ht := h.top
  induction k with
  | zero =>
    rw [Tab.lv_in (by omega : 0 < T.n)]
    have := h.pos 0 (by omega)
    omega
  | succ k ih => have := h.lv_mono k; omega

theorem Tab.Ok.lv_pos {T : Tab} (h : T.Ok) {k : Nat} (hk : k + 1 < T.n) : 1 ≤ T.lv k := by
  rw [Tab.lv_in (by omega : k < T.n)]; exact h.pos k hk

theorem Tab.Ok.lv_le {T : Tab} (h : T.Ok) (a m : Nat) : T.lv (a + m) ≤ T.lv a := by
  induction m with
  | zero => exact Int.le_refl _
  | succ m ih => have := (h.lv_mono (a + m)).1; rw [show a + (m + 1) = a + m + 1 from by omega]; omega

theorem Tab.Ok.lv_zero {T : Tab} (h : T.Ok) {k : Nat} : T.lv k = 0 ↔ T.n - 1 ≤ k := by
  refine ⟨fun e => ?_, h.end_⟩
  have := h.n2
  rcases Nat.lt_or_ge k (T.n - 1) with hk | hk
  · have := h.lv_pos (k := k) (by omega); omega
  · exact hk

/-! ### discounts -/
def disc (r : Int) : Nat → Int
  | 0 => 1000000000
  | k + 1 => disc r k * 1000 / (1000 + r)

theorem disc_step {r : Int} (h0 : 0 ≤ r) (k : Nat) (hk : 0 ≤ disc r k) : 0 ≤ disc r (k + 1) ∧ disc r (k + 1) ≤ disc r k := by
  show 0 ≤ disc r k * 1000 / (1000 + r) ∧ disc r k * 1000 / (1000 + r) ≤ disc r k
  refine ⟨Int.ediv_nonneg (by omega) (by omega), ?_⟩
  have h1 : disc r k * 1000 ≤ disc r k * (1000 + r) := Int.mul_le_mul_of_nonneg_left (by omega) hk
  have h2 : disc r k * 1000 / (1000 + r) ≤ disc r k * (1000 + r) / (1000 + r) := Int.ediv_le_ediv (by omega) h1
  rwa [Int.mul_ediv_cancel _ (by omega)] at h2

theorem disc_bd {r : Int} (h0 : 0 ≤ r) (k : Nat) : 0 ≤ disc r k ∧ disc r k ≤ 1000000000 := by
  induction k with
  | zero => simp [disc]
  | succ k ih => have := disc_step h0 k ih.1; omega

theorem disc_mono {r : Int} (h0 : 0 ≤ r) (a m : Nat) : disc r (a + m) ≤ disc r a := by
  induction m with
  | zero => exact Int.le_refl _
  | succ m ih => have := (disc_step h0 (a + m) (disc_bd h0 _).1).2; rw [show a + (m + 1) = a + m + 1 from by omega]; omega

/-! ### columns -/
def Tab.D (T : Tab) (r : Int) (k : Nat) : Int := T.lv k * disc r k
def Tab.dth (T : Tab) (k : Nat) : Int := T.lv k - T.lv (k + 1)
def Tab.C (T : Tab) (r : Int) (k : Nat) : Int := T.dth k * disc r (k + 1)
def Tab.N (T : Tab) (r : Int) (k : Nat) : Int := S (T.D r) k (T.n - 1 - k)
def Tab.M (T : Tab) (r : Int) (k : Nat) : Int := S (T.C r) k (T.n - 1 - k)

section
set_option linter.unusedSectionVars false
variable {T : Tab} (h : T.Ok) {r : Int} (h0 : 0 ≤ r)
include h

theorem Tab.Ok.dth_bd (k : Nat) : 0 ≤ T.dth k ∧ T.dth k ≤ 1000000 := by
  have h1 := h.lv_bd k; have h2 := h.lv_mono k
  unfold Tab.dth; omega

theorem Tab.Ok.dth_end {k : Nat} (hk : T.n - 1 ≤ k) : T.dth k = 0 := by
  unfold Tab.dth; rw [h.end_ hk, h.end_ (by omega : T.n - 1 ≤ k + 1)]; rfl

theorem Tab.Ok.D_end {k : Nat} (hk : T.n - 1 ≤ k) : T.D r k = 0 := by unfold Tab.D; rw [h.end_ hk]; simp
theorem Tab.Ok.C_end {k : Nat} (hk : T.n - 1 ≤ k) : T.C r k = 0 := by unfold Tab.C; rw [h.dth_end hk]; simp
theorem Tab.Ok.N_end {k : Nat} (hk : T.n - 1 ≤ k) : T.N r k = 0 := by unfold Tab.N; rw [show T.n - 1 - k = 0 from by omega]; rfl
theorem Tab.Ok.M_end {k : Nat} (hk : T.n - 1 ≤ k) : T.M r k = 0 := by unfold Tab.M; rw [show T.n - 1 - k = 0 from by omega]; rfl

theorem Tab.Ok.N_step (k : Nat) : T.N r k = T.D r k + T.N r (k + 1) := by
  by_cases hk : T.n - 1 ≤ k
  · rw [h.N_end hk, h.N_end (by omega), h.D_end hk]; rfl
  · unfold Tab.N
    rw [show T.n - 1 - k = (T.n - 1 - (k + 1)) + 1 from by omega, S_front]
theorem Tab.Ok.M_step (k : Nat) : T.M r k = T.C r k + T.M r (k + 1) := by
  by_cases hk : T.n - 1 ≤ k
  · rw [h.M_end hk, h.M_end (by omega), h.C_end hk]; rfl
  · unfold Tab.M
    rw [show T.n - 1 - k = (T.n - 1 - (k + 1)) + 1 from by omega, S_front]

include h0
theorem Tab.Ok.D_bd (k : Nat) : 0 ≤ T.D r k ∧ T.D r k ≤ 1000000000000000 := by
  have h1 := h.lv_bd k; have h2 := disc_bd h0 k
  unfold Tab.D
  refine ⟨Int.mul_nonneg h1.1 h2.1, ?_⟩
  have := Int.mul_le_mul h1.2 h2.2 h2.1 (by omega : (0 : Int) ≤ 1000000)
  omega
theorem Tab.Ok.C_bd (k : Nat) : 0 ≤ T.C r k ∧ T.C r k ≤ 1000000000000000 := by
  have h1 := h.dth_bd k; have h2 := disc_bd h0 (k + 1)
  unfold Tab.C
  refine ⟨Int.mul_nonneg h1.1 h2.1, ?_⟩
  have := Int.mul_le_mul h1.2 h2.2 h2.1 (by omega : (0 : Int) ≤ 1000000)
  omega
theorem Tab.Ok.D_mono (k : Nat) : T.D r (k + 1) ≤ T.D r k := by
  have h1 := h.lv_mono k; have h2 := disc_step h0 k (disc_bd h0 k).1; have h3 := h.lv_bd k
  unfold Tab.D
  exact Int.mul_le_mul h1.1 h2.2 h2.1 h3.1
theorem Tab.Ok.D_le (a m : Nat) : T.D r (a + m) ≤ T.D r a := by
  induction m with
  | zero => exact Int.le_refl _
  | succ m ih => have := h.D_mono h0 (a + m); rw [show a + (m + 1) = a + m + 1 from by omega]; omega
theorem Tab.Ok.N_bd (k : Nat) : 0 ≤ T.N r k ∧ T.N r k ≤ 119 * T.D r k := by
  have hb := S_bounds (T.D r) k (T.n - 1 - k) (T.D r k) fun j _ => ⟨(h.D_bd h0 _).1, h.D_le h0 k j⟩
  have hn := h.n120
  have h1 := (h.D_bd h0 k).1
  unfold Tab.N
  refine ⟨hb.1, Int.le_trans hb.2 (Int.mul_le_mul_of_nonneg_right (by omega) h1)⟩
theorem Tab.Ok.D_le_N (k : Nat) : T.D r k ≤ T.N r k := by
  rw [h.N_step k]; have := (h.N_bd h0 (k + 1)).1; omega
theorem Tab.Ok.N_max (k : Nat) : 0 ≤ T.N r k ∧ T.N r k ≤ 119000000000000000 := by
  have h1 := h.N_bd h0 k; have h2 := h.D_bd h0 k; omega
theorem Tab.Ok.N_mono (a m : Nat) : T.N r (a + m) ≤ T.N r a := by
  induction m with
  | zero => exact Int.le_refl _
  | succ m ih =>
    have h1 := h.N_step (r := r) (a + m); have h2 := (h.D_bd h0 (a + m)).1
    rw [show a + (m + 1) = a + m + 1 from by omega]; omega
/-- What dies from k on, discounted, is at most what lives at k. -/
theorem Tab.Ok.M_bd (k : Nat) : 0 ≤ T.M r k ∧ T.M r k ≤ T.D r k := by
  suffices ∀ d, ∀ k, T.n - 1 - k = d → 0 ≤ T.M r k ∧ T.M r k ≤ T.lv k * disc r (k + 1) by
    have h1 := this _ k rfl
    have h2 := disc_step h0 k (disc_bd h0 k).1
    have h3 := Int.mul_le_mul_of_nonneg_left h2.2 (h.lv_bd k).1
    unfold Tab.D; omega
  intro d
  induction d with
  | zero =>
    intro k hk
    rw [h.M_end (by omega), h.end_ (by omega)]; simp
  | succ d ih =>
    intro k hk
    have h1 := ih (k + 1) (by omega)
    have h2 := disc_step h0 (k + 1) (disc_bd h0 (k + 1)).1
    have h3 := Int.mul_le_mul_of_nonneg_left h2.2 (h.lv_bd (k + 1)).1
    rw [h.M_step k]
    have h4 : T.C r k = T.lv k * disc r (k + 1) - T.lv (k + 1) * disc r (k + 1) := by unfold Tab.C Tab.dth; rw [Int.sub_mul]
    have h5 := (h.C_bd h0 k).1
    omega
theorem Tab.Ok.M_max (k : Nat) : 0 ≤ T.M r k ∧ T.M r k ≤ 1000000000000000 := by
  have h1 := h.M_bd h0 k; have h2 := h.D_bd h0 k; omega
theorem Tab.Ok.M_mono (a m : Nat) : T.M r (a + m) ≤ T.M r a := by
  induction m with
  | zero => exact Int.le_refl _
  | succ m ih =>
    have h1 := h.M_step (r := r) (a + m); have h2 := (h.C_bd h0 (a + m)).1
    rw [show a + (m + 1) = a + m + 1 from by omega]; omega
end

/-! ### rounded quotients -/
/-- a * b / c, rounded down. -/
def qd (a b c : Int) : Int := a * b / c
/-- what is left -/
def rm (a b c : Int) : Int := a * b % c
/-- a * b / c, rounded up. -/
def up (a b c : Int) : Int := qd a b c + min 1 (rm a b c)

/-- Bits of a from place j on, times b, divided by c. -/
def qj (a b c : Int) (j : Nat) : Int := a / 2 ^ j * b / c
def rj (a b c : Int) (j : Nat) : Int := a / 2 ^ j * b % c

theorem bit_step (a : Int) (j : Nat) : a / 2 ^ j = 2 * (a / 2 ^ (j + 1)) + a / 2 ^ j % 2 := by
  have : a / 2 ^ (j + 1) = a / 2 ^ j / 2 := by
    rw [Int.pow_succ]
    exact (Int.ediv_ediv_of_nonneg (Int.le_of_lt (Int.pow_pos (by omega)))).symm
  omega
end Go.Proofs.Ytdeoampkbbbleaa.Pu
