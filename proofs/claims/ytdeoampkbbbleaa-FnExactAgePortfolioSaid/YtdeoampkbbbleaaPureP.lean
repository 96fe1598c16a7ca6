/- The plain arithmetic of policies: differences of products over a divisor, net and office premiums, reserves. No program in sight. Conditions: a valid life table, a rate of at least 0. -/
import Derived.Test.YtdeoampkbbbleaaPureB
namespace Go.Proofs.Ytdeoampkbbbleaa.Pu

/-! ### a difference of products over a divisor, bit by bit -/
def gn (a b s c : Int) (j : Nat) : Int := a / 2 ^ j * b - s / 2 ^ j * c
theorem gn_zero (a b s c : Int) : gn a b s c 0 = a * b - s * c := by simp [gn]
theorem gn_top {a s : Int} (b c : Int) (ha : 0 ≤ a) (ha2 : a < 4398046511104) (hs : 0 ≤ s) (hs2 : s < 4398046511104) : gn a b s c 42 = 0 := by
  have e1 : a / 2 ^ 42 = 0 := Int.ediv_eq_zero_of_lt ha (by simpa using ha2)
  have e2 : s / 2 ^ 42 = 0 := Int.ediv_eq_zero_of_lt hs (by simpa using hs2)
  unfold gn; rw [e1, e2]; simp
theorem gn_step (a b s c : Int) (j : Nat) : gn a b s c j = 2 * gn a b s c (j + 1) + a / 2 ^ j % 2 * b - s / 2 ^ j % 2 * c := by
  have h1 := bit_step a j; have h2 := bit_step s j
  unfold gn
  generalize a / 2 ^ j % 2 = e at *; generalize s / 2 ^ j % 2 = f at *
  rw [h1, h2]
  generalize a / 2 ^ (j + 1) = x; generalize s / 2 ^ (j + 1) = y
  rw [Int.add_mul, Int.add_mul, Int.mul_assoc, Int.mul_assoc, Int.mul_sub]; omega
theorem gn_bd {a b s c L U : Int} (hb : 0 ≤ b) (hc : 0 ≤ c) (hL : L ≤ 0) (hU : 0 ≤ U) (h1 : L ≤ a * b - s * c) (h2 : a * b - s * c ≤ U) (j : Nat) : L - b ≤ gn a b s c j ∧ gn a b s c j ≤ U + c := by
  induction j with
  | zero => rw [gn_zero]; omega
  | succ j ih =>
    have h := gn_step a b s c j
    have e : a / 2 ^ j % 2 = 0 ∨ a / 2 ^ j % 2 = 1 := by omega
    have f : s / 2 ^ j % 2 = 0 ∨ s / 2 ^ j % 2 = 1 := by omega
    rcases e with e | e <;> rcases f with f | f <;> rw [e, f] at h <;> omega
theorem q_bd {q r d G X : Int} (hd : 1 ≤ d) (E : q * d + r = G) (h1 : -(X * d) ≤ G) (h2 : G ≤ X * d) (h3 : -(3 * d) ≤ r) (h4 : r ≤ 3 * d) : -(X + 3) ≤ q ∧ q ≤ X + 3 := by
  have e1 : (X + 3) * d = X * d + 3 * d := Int.add_mul _ _ _
  have e2 : -(X + 3) * d = -(X * d) - 3 * d := by rw [Int.neg_mul, e1]; omega
  exact ⟨Int.le_of_mul_le_mul_right (a := d) (by omega) (by omega), Int.le_of_mul_le_mul_right (a := d) (by omega) (by omega)⟩
theorem q_fin {q r d G : Int} (hd : 1 ≤ d) (E : q * d + r = G) (h0 : 0 ≤ r) (h1 : r < d) : q = G / d ∧ r = G % d := by
  have h := (Int.ediv_emod_unique (a := G) (b := d) (q := q) (r := r) (by omega)).2 ⟨by rw [Int.mul_comm d q]; omega, h0, h1⟩
  exact ⟨h.1.symm, h.2.symm⟩
theorem q_down {q r d G : Int} (E : q * d + r = G) : (q - 1) * d + (r + d) = G := by rw [Int.sub_mul]; omega
theorem q_up {q r d G : Int} (E : q * d + r = G) : (q + 1) * d + (r - d) = G := by rw [Int.add_mul]; omega
/-- One round of the long division of a difference. -/
theorem g_round {a b s c d : Int} (j : Nat) {e f : Int} (he : a / 2 ^ j % 2 = e) (hf : s / 2 ^ j % 2 = f) (Q R : Int) (E : Q * d + R = gn a b s c (j + 1)) :
    (2 * Q + e * (b / d) - f * (c / d)) * d + (2 * R + e * (b % d) - f * (c % d)) = gn a b s c j := by
  have h := gn_step a b s c j
  have e1 := Int.mul_ediv_add_emod b d
  have e2 := Int.mul_ediv_add_emod c d
  rw [he, hf] at h
  rw [h, ← E]
  rw [Int.sub_mul, Int.add_mul, Int.mul_assoc, Int.mul_assoc, Int.mul_assoc]
  have k1 : e * b = e * (b / d * d) + e * (b % d) := by rw [← Int.mul_add, Int.mul_comm (b / d) d, e1]
  have k2 : f * c = f * (c / d * d) + f * (c % d) := by rw [← Int.mul_add, Int.mul_comm (c / d) d, e2]
  rw [k1, k2, Int.mul_add]; omega

/-! ### premiums -/
def cdiv (a b : Int) : Int := a / b + min 1 (a % b)
def Tab.net (T : Tab) (r kind : Int) (k n : Nat) (m : Int) : Int := up m (T.top r kind k n) (T.base r kind k n)
def officeV (net load : Int) : Int := net + cdiv (net * load) 1000

/-- What holds of a valid policy at index k, of n years. -/
structure PK (T : Tab) (r kind : Int) (k n : Nat) (m ld : Int) : Prop where
  hT : T.Ok
  h0 : 0 ≤ r
  h1 : r ≤ 200
  k1 : 0 ≤ kind
  k2 : kind ≤ 3
  hz : kind = 0 ↔ n = 0
  n120 : n ≤ 120
  hl : T.first + k + n ≤ 150
  m1 : 1 ≤ m
  m2 : m ≤ 100000000
  l1 : 0 ≤ ld
  l2 : ld ≤ 1000
  d0 : 1 ≤ T.D r k
  ds : ∀ j, j < n → 1 ≤ T.D r (k + j)

theorem PK.any {T : Tab} {r kind : Int} {k n : Nat} {m ld : Int} (h : PK T r kind k n m ld) : kind = 0 ∨ 1 ≤ n := by
  have := h.hz; omega
section
set_option linter.unusedSectionVars false
variable {T : Tab} {r kind : Int} {k n : Nat} {m ld : Int} (h : PK T r kind k n m ld)
include h
theorem PK.net_bd : 0 ≤ T.net r kind k n m ∧ T.net r kind k n m ≤ 20000000001 := by
  have b := h.hT.top_bd h.h0 kind k n
  have b2 := h.hT.base_bd h.h0 kind k n h.any
  have d := h.d0; have m1 := h.m1; have m2 := h.m2
  have q := qd_200 (a := m) (b := T.top r kind k n) (c := T.base r kind k n) (m := 100000000) (by omega) m2 b.1 (by omega) (by omega)
  have u := up_bd (a := m) (b := T.top r kind k n) (c := T.base r kind k n) (by omega)
  unfold Tab.net; omega
/-- What the rounding of the net premium is worth. -/
def Tab.gain (T : Tab) (r kind : Int) (k n : Nat) (m : Int) : Int := T.net r kind k n m * T.base r kind k n - m * T.top r kind k n
theorem PK.base1 : 1 ≤ T.base r kind k n := by have b2 := h.hT.base_bd h.h0 kind k n h.any; have := h.d0; omega
theorem PK.gain_eq : T.gain r kind k n m = if rm m (T.top r kind k n) (T.base r kind k n) = 0 then 0 else T.base r kind k n - rm m (T.top r kind k n) (T.base r kind k n) := by
  have hb := h.base1
  have hr := rm_bd (a := m) (b := T.top r kind k n) hb
  have e := Int.mul_ediv_add_emod (m * T.top r kind k n) (T.base r kind k n)
  unfold Tab.gain Tab.net up qd
  unfold rm at *
  generalize m * T.top r kind k n = A at *
  generalize T.base r kind k n = B at *
  generalize A / B = Q at *
  generalize A % B = R at *
  have e' : Q * B + R = A := by rw [Int.mul_comm]; exact e
  split
  · rename_i hz; rw [hz] at e' ⊢; rw [show min (1 : Int) 0 = 0 from rfl, Int.add_zero]; omega
  · rw [show min 1 R = 1 from by omega, Int.add_mul]; omega
theorem PK.gain_bd : 0 ≤ T.gain r kind k n m ∧ T.gain r kind k n m < T.base r kind k n := by
  have hb := h.base1
  have hr := rm_bd (a := m) (b := T.top r kind k n) hb
  rw [h.gain_eq]; split <;> omega
end

/-! ### reserves -/
/-- The years that are left at year j. -/
def lf (n j : Nat) : Nat := n - j
/-- What a reserve in year j is, times D. -/
def Tab.fw (T : Tab) (r kind : Int) (k n : Nat) (m : Int) (j : Nat) : Int := m * T.top r kind (k + j) (n - j) - T.net r kind k n m * T.base r kind (k + j) (n - j)
def Tab.fq (T : Tab) (r kind : Int) (k n : Nat) (m : Int) (j : Nat) : Int := T.fw r kind k n m j / T.D r (k + j)
def Tab.fr (T : Tab) (r kind : Int) (k n : Nat) (m : Int) (j : Nat) : Int := T.fw r kind k n m j % T.D r (k + j)
/-- The reserve, rounded up and at least 0. -/
def Tab.res (T : Tab) (r kind : Int) (k n : Nat) (m : Int) (j : Nat) : Int := max 0 (T.fq r kind k n m j + min 1 (T.fr r kind k n m j))
/-- How long a policy lasts. -/
def Tab.dur (T : Tab) (kind : Int) (k n : Nat) : Nat := if kind = 0 then T.n - 1 - k else n

section
set_option linter.unusedSectionVars false
variable {T : Tab} {r kind : Int} {k n : Nat} {m ld : Int} (h : PK T r kind k n m ld)
include h
theorem PK.k_lt : k + 1 < T.n := by
  rcases Nat.lt_or_ge (k + 1) T.n with g | g
  · exact g
  · have := h.hT.D_end (r := r) (k := k) (by omega); have := h.d0; omega
theorem PK.dur_bd : 1 ≤ T.dur kind k n ∧ T.dur kind k n ≤ 120 := by
  have h1 := h.k_lt; have h2 := h.hT.n120; have h3 := h.any; have h4 := h.n120
  unfold Tab.dur; split <;> omega
theorem PK.dur_age : T.first + k + T.dur kind k n ≤ 150 := by
  have h1 := h.k_lt; have h2 := h.hT.fin; have h3 := h.hl
  unfold Tab.dur; split <;> omega
/-- Bounds of the products that make a reserve. -/
theorem PK.fw_parts (j : Nat) (hd : 1 ≤ T.D r (k + j)) :
    0 ≤ qd m (T.top r kind (k + j) (n - j)) (T.D r (k + j)) ∧ qd m (T.top r kind (k + j) (n - j)) (T.D r (k + j)) ≤ 20000000000 ∧
    0 ≤ qd (T.net r kind k n m) (T.base r kind (k + j) (n - j)) (T.D r (k + j)) ∧ qd (T.net r kind k n m) (T.base r kind (k + j) (n - j)) (T.D r (k + j)) ≤ 4000000000200 ∧
    0 ≤ rm m (T.top r kind (k + j) (n - j)) (T.D r (k + j)) ∧ rm m (T.top r kind (k + j) (n - j)) (T.D r (k + j)) < T.D r (k + j) ∧
    0 ≤ rm (T.net r kind k n m) (T.base r kind (k + j) (n - j)) (T.D r (k + j)) ∧ rm (T.net r kind k n m) (T.base r kind (k + j) (n - j)) (T.D r (k + j)) < T.D r (k + j) := by
  have hn := h.net_bd
  have t := h.hT.top_bd h.h0 kind (k + j) (n - j)
  have b := h.hT.base_nn h.h0 kind (k + j) (n - j)
  have m1 := h.m1; have m2 := h.m2
  have q1 := qd_200 (a := m) (b := T.top r kind (k + j) (n - j)) (c := T.D r (k + j)) (m := 100000000) (by omega) m2 t.1 hd (by omega)
  have q2 := qd_200 (a := T.net r kind k n m) (b := T.base r kind (k + j) (n - j)) (c := T.D r (k + j)) (m := 20000000001) hn.1 hn.2 b.1 hd (by omega)
  have r1 := rm_bd (a := m) (b := T.top r kind (k + j) (n - j)) hd
  have r2 := rm_bd (a := T.net r kind k n m) (b := T.base r kind (k + j) (n - j)) hd
  omega
/-- The reserve from the two quotients. -/
theorem PK.fw_eq (j : Nat) (hd : 1 ≤ T.D r (k + j)) :
    T.fq r kind k n m j = qd m (T.top r kind (k + j) (n - j)) (T.D r (k + j)) - qd (T.net r kind k n m) (T.base r kind (k + j) (n - j)) (T.D r (k + j)) - (if rm m (T.top r kind (k + j) (n - j)) (T.D r (k + j)) < rm (T.net r kind k n m) (T.base r kind (k + j) (n - j)) (T.D r (k + j)) then 1 else 0) ∧
    T.fr r kind k n m j = rm m (T.top r kind (k + j) (n - j)) (T.D r (k + j)) - rm (T.net r kind k n m) (T.base r kind (k + j) (n - j)) (T.D r (k + j)) + (if rm m (T.top r kind (k + j) (n - j)) (T.D r (k + j)) < rm (T.net r kind k n m) (T.base r kind (k + j) (n - j)) (T.D r (k + j)) then T.D r (k + j) else 0) := by
  have p := h.fw_parts j hd
  unfold Tab.fq Tab.fr Tab.fw
  unfold qd rm at *
  have e1 := Int.mul_ediv_add_emod (m * T.top r kind (k + j) (n - j)) (T.D r (k + j))
  have e2 := Int.mul_ediv_add_emod (T.net r kind k n m * T.base r kind (k + j) (n - j)) (T.D r (k + j))
  generalize m * T.top r kind (k + j) (n - j) = A at *
  generalize T.net r kind k n m * T.base r kind (k + j) (n - j) = B at *
  generalize T.D r (k + j) = D at *
  generalize A / D = a at *
  generalize A % D = a' at *
  generalize B / D = b at *
  generalize B % D = b' at *
  have k1 : a * D + a' = A := by rw [Int.mul_comm]; exact e1
  have k2 : b * D + b' = B := by rw [Int.mul_comm]; exact e2
  split
  · have f := q_fin (q := a - b - 1) (r := a' - b' + D) (d := D) (G := A - B) hd (by rw [Int.sub_mul, Int.sub_mul]; omega) (by omega) (by omega)
    omega
  · have f := q_fin (q := a - b) (r := a' - b') (d := D) (G := A - B) hd (by rw [Int.sub_mul]; omega) (by omega) (by omega)
    omega
theorem PK.fq_bd (j : Nat) (hd : 1 ≤ T.D r (k + j)) : -4000000000201 ≤ T.fq r kind k n m j ∧ T.fq r kind k n m j ≤ 20000000000 ∧ 0 ≤ T.fr r kind k n m j ∧ T.fr r kind k n m j < T.D r (k + j) := by
  have p := h.fw_parts j hd
  have e := h.fw_eq j hd
  have g := Int.emod_lt_of_pos (T.fw r kind k n m j) (b := T.D r (k + j)) (by omega)
  have g' := Int.emod_nonneg (T.fw r kind k n m j) (b := T.D r (k + j)) (by omega)
  refine ⟨?_, ?_, g', g⟩ <;> (rw [e.1]; split <;> omega)
theorem PK.res_bd (j : Nat) (hd : 1 ≤ T.D r (k + j)) : 0 ≤ T.res r kind k n m j ∧ T.res r kind k n m j ≤ 20000000001 := by
  have b := h.fq_bd j hd
  unfold Tab.res; omega
end

/-! ### bounds for the long division of differences -/
theorem mul_bd {a b A B d : Int} (ha : 0 ≤ a) (hA : a ≤ A) (hb : 0 ≤ b) (hB : b ≤ B * d) : 0 ≤ a * b ∧ a * b ≤ A * (B * d) := ⟨Int.mul_nonneg ha hb, Int.mul_le_mul hA hB hb (by omega)⟩
/-- The reserve seen from behind, times D. -/
def Tab.bw (T : Tab) (r kind : Int) (k n : Nat) (m : Int) (j : Nat) : Int :=
  T.net r kind k n m * (T.base r kind k n - T.base r kind (k + j) (n - j)) - m * (T.top r kind k n - T.top r kind (k + j) (n - j))
theorem bw_eq (T : Tab) (r kind : Int) (k n : Nat) (m : Int) (j : Nat) : T.bw r kind k n m j = T.gain r kind k n m + T.fw r kind k n m j := by
  unfold Tab.bw Tab.gain Tab.fw; rw [Int.mul_sub, Int.mul_sub]; omega
section
set_option linter.unusedSectionVars false
variable {T : Tab} {r kind : Int} {k n : Nat} {m ld : Int} (h : PK T r kind k n m ld)
include h
theorem PK.j_n {j : Nat} (hj : j < T.dur kind k n) : kind = 0 ∨ k + j + (n - j) = k + n := by
  unfold Tab.dur at hj; split at hj <;> omega
theorem PK.diffs {j : Nat} (hj : j < T.dur kind k n) : 0 ≤ T.base r kind k n - T.base r kind (k + j) (n - j) ∧ T.base r kind k n - T.base r kind (k + j) (n - j) ≤ 119000000000000000 ∧
    0 ≤ T.top r kind k n - T.top r kind (k + j) (n - j) ∧ T.top r kind k n - T.top r kind (k + j) (n - j) ≤ 2000000000000000 := by
  have hjn := h.j_n hj
  have a1 := h.hT.N_mono h.h0 k j; have a2 := h.hT.N_max h.h0 k; have a3 := h.hT.N_max h.h0 (k + j)
  have b1 := h.hT.M_mono h.h0 k j; have b2 := h.hT.M_max h.h0 k; have b3 := h.hT.M_max h.h0 (k + j)
  unfold Tab.base Tab.top
  by_cases hk : kind = 0
  · simp only [if_pos hk]; omega
  · have e : k + j + (n - j) = k + n := by omega
    rw [e]
    simp only [if_neg hk]
    split
    · omega
    · split <;> omega
theorem PK.hG_fw (j : Nat) (hd : 1 ≤ T.D r (k + j)) (i : Nat) :
    -(1000000000000000000 * T.D r (k + j)) ≤ gn m (T.top r kind (k + j) (n - j)) (T.net r kind k n m) (T.base r kind (k + j) (n - j)) i ∧ gn m (T.top r kind (k + j) (n - j)) (T.net r kind k n m) (T.base r kind (k + j) (n - j)) i ≤ 1000000000000000000 * T.D r (k + j) := by
  have hn := h.net_bd
  have t := h.hT.top_bd h.h0 kind (k + j) (n - j)
  have b := h.hT.base_nn h.h0 kind (k + j) (n - j)
  have m1 := h.m1; have m2 := h.m2
  have p1 := mul_bd (a := m) (b := T.top r kind (k + j) (n - j)) (A := 100000000) (B := 2) (d := T.D r (k + j)) (by omega) m2 t.1 t.2.1
  have p2 := mul_bd (a := T.net r kind k n m) (b := T.base r kind (k + j) (n - j)) (A := 20000000001) (B := 119) (d := T.D r (k + j)) hn.1 hn.2 b.1 b.2.1
  have g := gn_bd (a := m) (b := T.top r kind (k + j) (n - j)) (s := T.net r kind k n m) (c := T.base r kind (k + j) (n - j)) (L := -(20000000001 * (119 * T.D r (k + j)))) (U := 100000000 * (2 * T.D r (k + j))) t.1 b.1 (by omega) (by omega) (by omega) (by omega) i
  omega
theorem PK.hG_gain (j : Nat) (hd : 1 ≤ T.D r (k + j)) (i : Nat) :
    -(1000000000000000000 * T.D r (k + j)) ≤ gn (T.net r kind k n m) (T.base r kind k n) m (T.top r kind k n) i ∧ gn (T.net r kind k n m) (T.base r kind k n) m (T.top r kind k n) i ≤ 1000000000000000000 * T.D r (k + j) := by
  have t := h.hT.top_bd h.h0 kind k n
  have b := h.hT.base_nn h.h0 kind k n
  have e := h.gain_bd
  unfold Tab.gain at e
  have g := gn_bd (a := T.net r kind k n m) (b := T.base r kind k n) (s := m) (c := T.top r kind k n) (L := 0) (U := T.base r kind k n) b.1 t.1 (by omega) (by omega) (by omega) (by omega) i
  omega
theorem PK.hG_bw {j : Nat} (hj : j < T.dur kind k n) (hd : 1 ≤ T.D r (k + j)) (i : Nat) :
    -(1000000000000000000 * T.D r (k + j)) ≤ gn (T.net r kind k n m) (T.base r kind k n - T.base r kind (k + j) (n - j)) m (T.top r kind k n - T.top r kind (k + j) (n - j)) i ∧
    gn (T.net r kind k n m) (T.base r kind k n - T.base r kind (k + j) (n - j)) m (T.top r kind k n - T.top r kind (k + j) (n - j)) i ≤ 1000000000000000000 * T.D r (k + j) := by
  have hn := h.net_bd
  have t := h.hT.top_bd h.h0 kind (k + j) (n - j)
  have b := h.hT.base_nn h.h0 kind (k + j) (n - j)
  have b' := h.hT.base_nn h.h0 kind k n
  have m1 := h.m1; have m2 := h.m2
  have df := h.diffs hj
  have e := h.gain_bd
  have eb := bw_eq T r kind k n m j
  have p1 := mul_bd (a := m) (b := T.top r kind (k + j) (n - j)) (A := 100000000) (B := 2) (d := T.D r (k + j)) (by omega) m2 t.1 t.2.1
  have p2 := mul_bd (a := T.net r kind k n m) (b := T.base r kind (k + j) (n - j)) (A := 20000000001) (B := 119) (d := T.D r (k + j)) hn.1 hn.2 b.1 b.2.1
  unfold Tab.bw Tab.fw at eb
  have g := gn_bd (a := T.net r kind k n m) (b := T.base r kind k n - T.base r kind (k + j) (n - j)) (s := m) (c := T.top r kind k n - T.top r kind (k + j) (n - j)) (L := -(20000000001 * (119 * T.D r (k + j)))) (U := 119000000000000000 + 100000000 * (2 * T.D r (k + j))) df.1 df.2.2.1 (by omega) (by omega) (by omega) (by omega) i
  omega
/-- The reserve from behind out of the one from ahead and the gain. -/
theorem PK.bw_div (j : Nat) (hd : 1 ≤ T.D r (k + j)) :
    T.bw r kind k n m j / T.D r (k + j) = T.fq r kind k n m j + T.gain r kind k n m / T.D r (k + j) + (T.fr r kind k n m j + T.gain r kind k n m % T.D r (k + j)) / T.D r (k + j) ∧
    T.bw r kind k n m j % T.D r (k + j) = (T.fr r kind k n m j + T.gain r kind k n m % T.D r (k + j)) % T.D r (k + j) := by
  rw [bw_eq]
  unfold Tab.fq Tab.fr
  generalize T.fw r kind k n m j = F
  generalize T.gain r kind k n m = G
  generalize T.D r (k + j) = D at *
  have e1 := Int.mul_ediv_add_emod F D
  have e2 := Int.mul_ediv_add_emod G D
  have e3 := Int.mul_ediv_add_emod (F % D + G % D) D
  have l1 := Int.emod_nonneg (F % D + G % D) (b := D) (by omega)
  have l2 := Int.emod_lt_of_pos (F % D + G % D) (b := D) (by omega)
  have f := q_fin (q := F / D + G / D + (F % D + G % D) / D) (r := (F % D + G % D) % D) (d := D) (G := G + F) hd (by rw [Int.mul_comm, Int.mul_add, Int.mul_add]; omega) l1 l2
  exact ⟨f.1.symm, f.2.symm⟩
end
end Go.Proofs.Ytdeoampkbbbleaa.Pu
