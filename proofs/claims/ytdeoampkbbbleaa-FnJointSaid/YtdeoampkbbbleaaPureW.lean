/- The plain arithmetic of expected years: greatest common factors, fractions in lowest terms. No program in sight. Conditions: a valid life table. -/
import Derived.Test.YtdeoampkbbbleaaPureB
namespace Go.Proofs.Ytdeoampkbbbleaa.Pu

theorem gcd_step (a b : Nat) : Nat.gcd a b = Nat.gcd b (a % b) := by
  rw [Nat.gcd_comm a b, Nat.gcd_rec b a, Nat.gcd_comm]
def fA (a b : Nat) : Nat := a / Nat.gcd a b
def fB (a b : Nat) : Nat := b / Nat.gcd a b
theorem gcd_pos {a b : Nat} (hb : 1 ≤ b) : 1 ≤ Nat.gcd a b := Nat.gcd_pos_of_pos_right _ hb
theorem fA_le (a b : Nat) : fA a b ≤ a := Nat.div_le_self _ _
theorem fB_le (a b : Nat) : fB a b ≤ b := Nat.div_le_self _ _
theorem fB_pos {a b : Nat} (hb : 1 ≤ b) : 1 ≤ fB a b := Nat.div_pos (Nat.le_of_dvd hb (Nat.gcd_dvd_right a b)) (gcd_pos hb)
theorem f_zero {b : Nat} (hb : 1 ≤ b) : fA 0 b = 0 ∧ fB 0 b = 1 := by
  unfold fA fB; rw [Nat.gcd_zero_left]; exact ⟨Nat.zero_div _, Nat.div_self hb⟩

/-- The years that the lives at index k still live. -/
def Tab.yrs (T : Tab) (k : Nat) : Int := S T.lv (k + 1) (T.n - 2 - k)
theorem Tab.Ok.yrs_bd {T : Tab} (h : T.Ok) (k : Nat) : 0 ≤ T.yrs k ∧ T.yrs k ≤ 120000000 := by
  have hb := S_bounds T.lv (k + 1) (T.n - 2 - k) 1000000 fun j _ => h.lv_bd _
  have hn := h.n120
  unfold Tab.yrs
  refine ⟨hb.1, Int.le_trans hb.2 ?_⟩
  have := Int.mul_le_mul_of_nonneg_right (show ((T.n - 2 - k : Nat) : Int) ≤ 120 by omega) (show (0 : Int) ≤ 1000000 by omega)
  omega
theorem Tab.Ok.yrs_part {T : Tab} (h : T.Ok) (k m : Nat) : 0 ≤ S T.lv (k + 1) m ∧ (m ≤ 120 → S T.lv (k + 1) m ≤ 120000000) := by
  have hb := S_bounds T.lv (k + 1) m 1000000 fun j _ => h.lv_bd _
  refine ⟨hb.1, fun hm => Int.le_trans hb.2 ?_⟩
  have := Int.mul_le_mul_of_nonneg_right (show (m : Int) ≤ 120 by omega) (show (0 : Int) ≤ 1000000 by omega)
  omega
/-- The same as the sum of the rest of the list. -/
theorem Tab.Ok.yrs_list {T : Tab} (h : T.Ok) {k : Nat} (hk : k + 1 < T.n) : S (fun i => T.f (k + 1 + i)) 0 (T.n - (k + 1)) = T.yrs k := by
  have e : ∀ m, m ≤ T.n - (k + 1) → S (fun i => T.f (k + 1 + i)) 0 m = S T.lv (k + 1) m := by
    intro m
    induction m with
    | zero => intro _; rfl
    | succ m ih =>
      intro hm
      rw [S_succ, S_succ, ih (by omega), Nat.zero_add, Tab.lv_in (by omega)]
  rw [e _ (Nat.le_refl _), show T.n - (k + 1) = (T.n - 2 - k) + 1 from by omega, S_succ, h.end_ (by omega)]
  unfold Tab.yrs; omega
def eyA (T : Tab) (k : Nat) : Nat := fA (T.yrs k).toNat (T.lv k).toNat
def eyB (T : Tab) (k : Nat) : Nat := fB (T.yrs k).toNat (T.lv k).toNat
theorem ey_bd {T : Tab} (h : T.Ok) {k : Nat} (hk : k + 1 < T.n) : eyA T k ≤ 120000000 ∧ 1 ≤ eyB T k ∧ eyB T k ≤ 1000000 := by
  have h1 := h.yrs_bd k; have h2 := h.lv_bd k; have h3 := h.lv_pos hk
  have h4 := fA_le (T.yrs k).toNat (T.lv k).toNat; have h5 := fB_le (T.yrs k).toNat (T.lv k).toNat
  have h6 := fB_pos (a := (T.yrs k).toNat) (b := (T.lv k).toNat) (by omega)
  unfold eyA eyB; omega
/-- What a widow or widower lives alone, as a fraction before it is made lowest. -/
def wyX (J U : Tab) (j : Nat) : Nat := ((eyA U j : Int) * eyB J 0 - eyA J 0 * eyB U j).toNat
def wyY (J U : Tab) (j : Nat) : Nat := eyB U j * eyB J 0
theorem wy_bd {J U : Tab} (hJ : J.Ok) (hU : U.Ok) {j : Nat} (hj : j + 1 < U.n) (h0 : 0 + 1 < J.n) :
    0 ≤ (eyA U j : Int) * eyB J 0 ∧ (eyA U j : Int) * eyB J 0 ≤ 120000000000000 ∧ 0 ≤ (eyA J 0 : Int) * eyB U j ∧ (eyA J 0 : Int) * eyB U j ≤ 120000000000000 ∧ 1 ≤ (eyB U j : Int) * eyB J 0 ∧ (eyB U j : Int) * eyB J 0 ≤ 1000000000000 := by
  have a := ey_bd hU hj; have b := ey_bd hJ h0
  have h1 : (eyA U j : Int) * eyB J 0 ≤ 120000000 * 1000000 := Int.mul_le_mul (by omega) (by omega) (by omega) (by omega)
  have h2 : (eyA J 0 : Int) * eyB U j ≤ 120000000 * 1000000 := Int.mul_le_mul (by omega) (by omega) (by omega) (by omega)
  have h3 : (eyB U j : Int) * eyB J 0 ≤ 1000000 * 1000000 := Int.mul_le_mul (by omega) (by omega) (by omega) (by omega)
  have h4 : (1 : Int) * 1 ≤ eyB U j * eyB J 0 := Int.mul_le_mul (by omega) (by omega) (by omega) (by omega)
  refine ⟨Int.mul_nonneg (by omega) (by omega), by omega, Int.mul_nonneg (by omega) (by omega), by omega, by omega, by omega⟩
theorem wyY_cast (J U : Tab) (j : Nat) : ((wyY J U j : Nat) : Int) = (eyB U j : Int) * eyB J 0 := by unfold wyY; exact Int.natCast_mul _ _
end Go.Proofs.Ytdeoampkbbbleaa.Pu
