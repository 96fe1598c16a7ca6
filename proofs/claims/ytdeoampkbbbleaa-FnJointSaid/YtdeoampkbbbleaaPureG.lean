/- The plain arithmetic of the laws of survivors: fractions in lowest terms, middle ages, two lives. No program in sight. Conditions: a valid life table. -/
import Derived.Test.YtdeoampkbbbleaaPureW
namespace Go.Proofs.Ytdeoampkbbbleaa.Pu

theorem fA_mul (a b : Nat) : fA a b * Nat.gcd a b = a := Nat.div_mul_cancel (Nat.gcd_dvd_left a b)
theorem fB_mul (a b : Nat) : fB a b * Nat.gcd a b = b := Nat.div_mul_cancel (Nat.gcd_dvd_right a b)
theorem fB_mod {a b : Nat} : b % fB a b = 0 := Nat.mod_eq_zero_of_dvd ⟨Nat.gcd a b, (fB_mul a b).symm⟩
theorem fB_quo {a b : Nat} (hb : 1 ≤ b) : b / fB a b = Nat.gcd a b := by
  have h := fB_pos (a := a) hb
  have e := fB_mul a b
  exact Nat.div_eq_of_eq_mul_right (by omega) e.symm
/-- A share times its denominator's part is the whole. -/
theorem fA_quo {a b : Nat} (hb : 1 ≤ b) : fA a b * (b / fB a b) = a := by rw [fB_quo hb]; exact fA_mul a b
theorem f_cross (a b : Nat) : fA a b * b = fB a b * a := by
  have h1 := fA_mul a b; have h2 := fB_mul a b
  calc fA a b * b = fA a b * (fB a b * Nat.gcd a b) := by rw [h2]
    _ = fB a b * (fA a b * Nat.gcd a b) := by rw [Nat.mul_left_comm]
    _ = fB a b * a := by rw [h1]
theorem f_coprime {a b : Nat} (hb : 1 ≤ b) : Nat.gcd (fA a b) (fB a b) = 1 := Nat.coprime_div_gcd_div_gcd (gcd_pos hb)
/-- A mean with this year's payment. -/
theorem f_add {a b : Nat} (hb : 1 ≤ b) : fA (a + b) b = fA a b + fB a b ∧ fB (a + b) b = fB a b := by
  have hg : Nat.gcd (a + b) b = Nat.gcd a b := by rw [Nat.gcd_comm, Nat.gcd_comm a b]; simp
  have hp := gcd_pos (a := a) hb
  have h1 := fA_mul a b; have h2 := fB_mul a b
  unfold fA fB at *
  rw [hg]
  refine ⟨?_, rfl⟩
  refine Nat.div_eq_of_eq_mul_left (by omega) ?_
  rw [Nat.add_mul, h1, h2]

/-! ### expected years -/
theorem Tab.Ok.yrs_step {T : Tab} (h : T.Ok) {k : Nat} (hk : k + 2 < T.n) : T.yrs k = T.lv (k + 1) + T.yrs (k + 1) := by
  have _ := h
  unfold Tab.yrs
  rw [show T.n - 2 - k = (T.n - 2 - (k + 1)) + 1 from by omega, S_front]
theorem Tab.Ok.yrs_last {T : Tab} {k : Nat} (hk : T.n ≤ k + 2) : T.yrs k = 0 := by
  unfold Tab.yrs
  rw [show T.n - 2 - k = 0 from by omega]; rfl
/-- What is lived from this year on. -/
theorem Tab.Ok.all_list {T : Tab} (h : T.Ok) {k : Nat} (hk : k + 1 < T.n) : S (fun i => T.f (k + i)) 0 (T.n - k) = T.yrs k + T.lv k := by
  have e := h.yrs_list hk
  rw [show T.n - k = (T.n - (k + 1)) + 1 from by omega, S_front]
  have e2 : S (fun i => T.f (k + i)) (0 + 1) (T.n - (k + 1)) = S (fun i => T.f (k + 1 + i)) 0 (T.n - (k + 1)) := by
    generalize T.n - (k + 1) = m
    induction m with
    | zero => rfl
    | succ m ih => rw [S_succ, S_succ, ih]; simp only [show k + (0 + 1 + m) = k + 1 + (0 + m) from by omega]
  rw [e2, e, Tab.lv_in (by omega)]
  simp only [Nat.add_zero]
  omega

/-! ### the middle age -/
/-- The first index from k on at which at most half of the lives at k are left. -/
def Tab.mid (T : Tab) (k : Nat) : Nat → Nat
  | 0 => k
  | m + 1 => if T.lv k < 2 * T.lv (T.mid k m) then T.mid k m + 1 else T.mid k m

/-! ### two lives -/
/-- The lives of one of two: a d + c b - a c. -/
def oneX (a b c d : Int) : Int := a * d + c * b - a * c
theorem one_bd {a b c d : Int} (ha : 0 ≤ a) (hab : a ≤ b) (hc : 0 ≤ c) (hcd : c ≤ d) : a * c ≤ oneX a b c d ∧ oneX a b c d ≤ b * d := by
  have h1 : a * c ≤ a * d := Int.mul_le_mul_of_nonneg_left hcd ha
  have h2 : c * a ≤ c * b := Int.mul_le_mul_of_nonneg_left hab hc
  have h3 : 0 ≤ (b - a) * (d - c) := Int.mul_nonneg (by omega) (by omega)
  rw [Int.sub_mul, Int.mul_sub, Int.mul_sub] at h3
  rw [Int.mul_comm c a] at h2
  unfold oneX
  have e : c * b = b * c := Int.mul_comm _ _
  omega
/-- The share of both is never above the share of one. -/
theorem both_le_one {P R Q : Nat} (hQ : 1 ≤ Q) (h : P ≤ R) : fA P Q * fB R Q ≤ fA R Q * fB P Q := by
  have g1 := gcd_pos (a := P) hQ; have g2 := gcd_pos (a := R) hQ
  have a1 := fA_mul P Q; have b1 := fB_mul P Q; have a2 := fA_mul R Q; have b2 := fB_mul R Q
  generalize Nat.gcd P Q = G at *
  generalize Nat.gcd R Q = H at *
  refine Nat.le_of_mul_le_mul_right (c := G * H) ?_ (Nat.mul_pos g1 g2)
  calc fA P Q * fB R Q * (G * H) = (fA P Q * G) * (fB R Q * H) := by ac_rfl
    _ = P * Q := by rw [a1, b2]
    _ ≤ R * Q := Nat.mul_le_mul_right _ h
    _ = (fA R Q * H) * (fB P Q * G) := by rw [a2, b1]
    _ = fA R Q * fB P Q * (G * H) := by ac_rfl
end Go.Proofs.Ytdeoampkbbbleaa.Pu
