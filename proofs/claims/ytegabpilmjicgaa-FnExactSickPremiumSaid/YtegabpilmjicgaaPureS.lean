/- The plain words on sickness tables: validity, weeks, the value of a benefit. No program in sight. Conditions: what each names. -/
import Derived.Test.YtegabpilmjicgaaPureB
namespace Go.Proofs.Ytegabpilmjicgaa.Pu

/-- A valid sickness table. -/
structure Tab.SOk (Z : Tab) : Prop where
  lo : 0 ≤ Z.first
  hi : Z.first ≤ 100
  n1 : 1 ≤ Z.n
  n120 : Z.n ≤ 120
  all : ∀ i, i < Z.n → 0 ≤ Z.f i ∧ Z.f i ≤ 52000
/-- The weeks at an age. -/
def Tab.wk (Z : Tab) (age : Int) : Int := if 0 ≤ age - Z.first ∧ age - Z.first < Z.n then Z.f (age - Z.first).toNat else 0
theorem Tab.SOk.wk_bd {Z : Tab} (h : Z.SOk) (age : Int) : 0 ≤ Z.wk age ∧ Z.wk age ≤ 52000 := by
  unfold Tab.wk
  by_cases h1 : 0 ≤ age - Z.first ∧ age - Z.first < Z.n
  · rw [if_pos h1]; exact h.all _ (by omega)
  · rw [if_neg h1]; omega

/-- What the benefit in year j is worth. -/
def sickG (T Z : Tab) (r : Int) (k : Nat) (b : Int) (j : Nat) : Int := up (b * Z.wk (T.first + k + j)) (T.D r (k + j)) (1000 * T.D r k)
def sickS (T Z : Tab) (r : Int) (k : Nat) (b : Int) (n : Nat) : Int := S (sickG T Z r k b) 0 n
section
set_option linter.unusedSectionVars false
variable {T Z : Tab} (hT : T.Ok) (hZ : Z.SOk) {r : Int} (h0 : 0 ≤ r) {k : Nat} (hd : 1 ≤ T.D r k) {b : Int} (hb : 1 ≤ b) (hb2 : b ≤ 100000)
include hT hZ h0 hd hb hb2
theorem sick_ab (j : Nat) : 0 ≤ b * Z.wk (T.first + k + j) ∧ b * Z.wk (T.first + k + j) ≤ 5200000000 ∧ 0 ≤ T.D r (k + j) ∧ T.D r (k + j) ≤ 1000000000000000 ∧ 1000 ≤ 1000 * T.D r k ∧ 1000 * T.D r k ≤ 1000000000000000000 ∧
    0 ≤ qd (b * Z.wk (T.first + k + j)) (T.D r (k + j)) (1000 * T.D r k) ∧ qd (b * Z.wk (T.first + k + j)) (T.D r (k + j)) (1000 * T.D r k) ≤ 5200000000 := by
  have w := hZ.wk_bd (T.first + k + j)
  have d := hT.D_bd h0 (k + j)
  have d2 := hT.D_bd h0 k
  have d3 := hT.D_le h0 k j
  have m1 : 0 ≤ b * Z.wk (T.first + k + j) := Int.mul_nonneg (by omega) w.1
  have m2 := Int.mul_le_mul hb2 w.2 w.1 (by omega : (0 : Int) ≤ 100000)
  generalize b * Z.wk (T.first + k + j) = a at *
  have q := qd_le (a := a) (b := T.D r (k + j)) (c := 1000 * T.D r k) (K := 1) m1 (by omega) (by omega)
  have q2 := qd_nonneg (a := a) (b := T.D r (k + j)) (c := 1000 * T.D r k) m1 d.1 (by omega)
  omega
theorem sickG_bd (j : Nat) : 0 ≤ sickG T Z r k b j ∧ sickG T Z r k b j ≤ 5200000001 := by
  obtain ⟨a1, a2, a3, a4, a5, a6, a7, a8⟩ := sick_ab hT hZ h0 hd hb hb2 j
  have := up_bd (a := b * Z.wk (T.first + k + j)) (b := T.D r (k + j)) (c := 1000 * T.D r k) (by omega)
  unfold sickG; omega
theorem sickS_bd (n : Nat) (hn : n ≤ 60) : 0 ≤ sickS T Z r k b n ∧ sickS T Z r k b n ≤ 312000000060 := by
  have h := S_bounds (sickG T Z r k b) 0 n 5200000001 fun j _ => sickG_bd hT hZ h0 hd hb hb2 _
  unfold sickS; omega
omit hT hZ h0 hd hb hb2 in
theorem sickS_succ (n : Nat) : sickS T Z r k b (n + 1) = sickS T Z r k b n + sickG T Z r k b n := by unfold sickS; rw [S_succ, Nat.zero_add]
end
end Go.Proofs.Ytegabpilmjicgaa.Pu
