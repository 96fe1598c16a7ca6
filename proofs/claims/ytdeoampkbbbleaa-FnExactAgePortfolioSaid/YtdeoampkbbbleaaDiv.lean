/- The reference's long division l05Divide and l05Up. Condition: numbers in range and the quotient at most 10^18. -/
import Derived.Test.YtdeoampkbbbleaaTabs
namespace Go.Proofs.Ytdeoampkbbbleaa.Pu

theorem q_step (x y b c : Int) (hc : 0 < c) (h : y = 2 * x ∨ y = 2 * x + 1) :
    y * b / c = 2 * (x * b / c) + (y - 2 * x) * (b / c) + (2 * (x * b % c) + (y - 2 * x) * (b % c)) / c ∧ y * b % c = (2 * (x * b % c) + (y - 2 * x) * (b % c)) % c := by
  have e1 := Int.mul_ediv_add_emod (x * b) c
  have e2 := Int.mul_ediv_add_emod b c
  have e : y * b = (2 * (x * b % c) + (y - 2 * x) * (b % c)) + (2 * (x * b / c) + (y - 2 * x) * (b / c)) * c := by
    generalize x * b / c = p at *; generalize x * b % c = p' at *; generalize b / c = s at *; generalize b % c = s' at *
    rcases h with rfl | rfl
    · rw [show 2 * x * b = 2 * (x * b) from Int.mul_assoc _ _ _, ← e1, Int.sub_self, Int.zero_mul, Int.zero_mul, Int.add_zero, Int.add_zero, Int.mul_add, Int.mul_assoc 2 p c, Int.mul_comm p c]; omega
    · rw [show (2 * x + 1) * b = 2 * (x * b) + b from by rw [Int.add_mul, Int.mul_assoc, Int.one_mul], ← e1, show 2 * x + 1 - 2 * x = 1 from by omega, Int.one_mul, Int.one_mul, Int.add_mul, Int.mul_add, Int.mul_assoc 2 p c, Int.mul_comm p c, Int.mul_comm s c]; omega
  constructor
  · rw [e, Int.add_mul_ediv_right _ _ (by omega)]; omega
  · rw [e, Int.add_mul_emod_self_right]

theorem qj_bd {a b c : Int} (ha : 0 ≤ a) (hb : 0 ≤ b) (hc : 0 < c) (j : Nat) : 0 ≤ qj a b c j ∧ qj a b c j ≤ qd a b c ∧ 0 ≤ rj a b c j ∧ rj a b c j < c := by
  have hp : (0 : Int) < 2 ^ j := Int.pow_pos (by omega)
  have h1 : 0 ≤ a / 2 ^ j := Int.ediv_nonneg ha (Int.le_of_lt hp)
  have h2 : a / 2 ^ j ≤ a := Int.ediv_le_self _ ha
  refine ⟨Int.ediv_nonneg (Int.mul_nonneg h1 hb) (Int.le_of_lt hc), Int.ediv_le_ediv hc (Int.mul_le_mul_of_nonneg_right h2 hb), Int.emod_nonneg _ (by omega), Int.emod_lt_of_pos _ hc⟩
end Go.Proofs.Ytdeoampkbbbleaa.Pu
namespace Go.Proofs.Ytdeoampkbbbleaa
open Go.RowKit Pu

theorem s_Divide (a b c : Int) (ha : 0 ≤ a) (ha2 : a < 4398046511104) (hb : 0 ≤ b) (hb2 : b ≤ 1000000000000000000) (hc : 1 ≤ c) (hc2 : c ≤ 1000000000000000000) (hq : qd a b c ≤ 1000000000000000000) (w : World) :
    Calls Try.prog 232 #[.int .i64 a, .int .i64 b, .int .i64 c] w fun e w' => e = .returned (.tuple #[.int .i64 (qd a b c), .int .i64 (rm a b c)]) ∧ w = w' := by
  go_enter Try.func232, Try.ntmps232
  go_wp2
  go_loop [8, 9, 10] (fun q r i => ∃ j : Nat, j ≤ 42 ∧ i = .int .i64 (j - 1) ∧ q = .int .i64 (qj a b c j) ∧ r = .int .i64 (rj a b c j)) (fun _ _ i => (intOf i + 1).toNat)
  case atStart =>
    have e0 : a / 2 ^ 42 = 0 := Int.ediv_eq_zero_of_lt ha (by simpa using ha2)
    exact ⟨42, by omega, rfl, by unfold qj; rw [e0]; simp, by unfold rj; rw [e0]; simp⟩
  case round =>
    obtain ⟨j, hj, rfl, rfl, rfl⟩ := hrel
    by_cases hlt : j = 0
    · subst hlt
      go_wp2
      go_ret2
      exact ⟨by simp [qj, rj, qd, rm], rfl⟩
    · obtain ⟨m, rfl⟩ : ∃ m, j = m + 1 := ⟨j - 1, by omega⟩
      have hm := qj_bd ha hb hc (m + 1)
      have hm' := qj_bd ha hb hc m
      have hs := bit_step a m
      have hp : (0 : Int) < 2 ^ m := Int.pow_pos (by omega)
      have hy : (a / 2 ^ m).tmod 2 = a / 2 ^ m % 2 := Int.tmod_eq_emod_of_nonneg (Int.ediv_nonneg ha (Int.le_of_lt hp))
      have hbc : 0 ≤ b / c ∧ b / c ≤ b ∧ 0 ≤ b % c ∧ b % c < c := ⟨Int.ediv_nonneg hb (by omega), Int.ediv_le_self _ hb, Int.emod_nonneg _ (by omega), Int.emod_lt_of_pos _ (by omega)⟩
      by_cases hbit : a / 2 ^ m % 2 = 1
      · have hq1 : qj a b c m = 2 * qj a b c (m + 1) + b / c + (2 * rj a b c (m + 1) + b % c) / c ∧ rj a b c m = (2 * rj a b c (m + 1) + b % c) % c := by
          have h := q_step (a / 2 ^ (m + 1)) (a / 2 ^ m) b c (by omega) (Or.inr (by omega))
          rw [show a / 2 ^ m - 2 * (a / 2 ^ (m + 1)) = 1 from by omega, Int.one_mul, Int.one_mul] at h
          exact h
        rw [hbit] at hy
        clear hs hp hbit
        generalize qj a b c (m + 1) = Q at *; generalize rj a b c (m + 1) = R at *
        have hd : 0 ≤ (2 * R + b % c) / c := Int.ediv_nonneg (by omega) (by omega)
        go_wp2
        go_round
        case rel => exact ⟨m, by omega, by go_num, by go_num, by go_num⟩
        case measure => simp [intOf]
      · have hq1 : qj a b c m = 2 * qj a b c (m + 1) + 2 * rj a b c (m + 1) / c ∧ rj a b c m = 2 * rj a b c (m + 1) % c := by
          have h := q_step (a / 2 ^ (m + 1)) (a / 2 ^ m) b c (by omega) (Or.inl (by omega))
          rw [show a / 2 ^ m - 2 * (a / 2 ^ (m + 1)) = 0 from by omega, Int.zero_mul, Int.zero_mul, Int.add_zero, Int.add_zero] at h
          exact h
        rw [show a / 2 ^ m % 2 = 0 from by omega] at hy
        clear hs hp hbit
        generalize qj a b c (m + 1) = Q at *; generalize rj a b c (m + 1) = R at *
        have hd : 0 ≤ 2 * R / c := Int.ediv_nonneg (by omega) (by omega)
        go_wp2
        go_round
        case rel => exact ⟨m, by omega, by go_num, by go_num, by go_num⟩
        case measure => simp [intOf]

theorem s_Up (a b c : Int) (ha : 0 ≤ a) (ha2 : a < 4398046511104) (hb : 0 ≤ b) (hb2 : b ≤ 1000000000000000000) (hc : 1 ≤ c) (hc2 : c ≤ 1000000000000000000) (hq : qd a b c ≤ 1000000000000000000) (w : World) :
    Calls Try.prog 158 #[.int .i64 a, .int .i64 b, .int .i64 c] w fun e w' => e = .returned (.int .i64 (up a b c)) ∧ w = w' := by
  have h0 := qj_bd ha hb hc 0
  have h1 : 0 ≤ qd a b c ∧ 0 ≤ rm a b c ∧ rm a b c < c := by
    refine ⟨Int.ediv_nonneg (Int.mul_nonneg ha hb) (by omega), Int.emod_nonneg _ (by omega), Int.emod_lt_of_pos _ (by omega)⟩
  go_enter Try.func158, Try.ntmps158
  go_wp2_with (go_at_call 232; refine (s_Divide a b c ha ha2 hb hb2 hc hc2 hq _).mono ?_; rintro e w' ⟨rfl, rfl⟩)
  all_goals
    go_ret
    exact ⟨ret_int (by unfold up; omega), rfl⟩
end Go.Proofs.Ytdeoampkbbbleaa
