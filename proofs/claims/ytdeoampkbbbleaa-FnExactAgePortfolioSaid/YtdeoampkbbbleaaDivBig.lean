/- The reference's long division where the quotient is too great. Condition: numbers in range and the quotient greater than 10^18. -/
import Derived.Test.YtdeoampkbbbleaaDiv
namespace Go.Proofs.Ytdeoampkbbbleaa
open Go.RowKit Pu

theorem s_DivideBig (a b c : Int) (ha : 0 ≤ a) (ha2 : a < 4398046511104) (hb : 0 ≤ b) (hb2 : b ≤ 1000000000000000000) (hc : 1 ≤ c) (hc2 : c ≤ 1000000000000000000) (hq : 1000000000000000000 < qd a b c) (w : World) :
    Calls Try.prog 232 #[.int .i64 a, .int .i64 b, .int .i64 c] w fun e w' => e = .returned (.tuple #[.int .i64 2000000000000000000, .int .i64 0]) ∧ w = w' := by
  go_enter Try.func232, Try.ntmps232
  go_wp2
  go_loop [8, 9, 10] (fun q r i => ∃ j : Nat, j ≤ 42 ∧ i = .int .i64 (j - 1) ∧ qj a b c j ≤ 1000000000000000000 ∧ q = .int .i64 (qj a b c j) ∧ r = .int .i64 (rj a b c j)) (fun _ _ i => (intOf i + 1).toNat)
  case atStart =>
    have e0 : a / 2 ^ 42 = 0 := Int.ediv_eq_zero_of_lt ha (by simpa using ha2)
    exact ⟨42, by omega, rfl, by unfold qj; rw [e0]; simp, by unfold qj; rw [e0]; simp, by unfold rj; rw [e0]; simp⟩
  case round =>
    obtain ⟨j, hj, rfl, hqj, rfl, rfl⟩ := hrel
    by_cases hlt : j = 0
    · subst hlt
      have : qj a b c 0 = qd a b c := by simp [qj, qd]
      omega
    · obtain ⟨m, rfl⟩ : ∃ m, j = m + 1 := ⟨j - 1, by omega⟩
      have hm := qj_bd ha hb hc (m + 1)
      have hm' := qj_bd ha hb hc m
      have hs := bit_step a m
      have hp : (0 : Int) < 2 ^ m := Int.pow_pos (by omega)
      have hy : (a / 2 ^ m).tmod 2 = a / 2 ^ m % 2 := Int.tmod_eq_emod_of_nonneg (Int.ediv_nonneg ha (Int.le_of_lt hp))
      have hbc : 0 ≤ b / c ∧ b / c ≤ b ∧ 0 ≤ b % c ∧ b % c < c := ⟨Int.ediv_nonneg hb (by omega), Int.ediv_le_self _ hb, Int.emod_nonneg _ (by omega), Int.emod_lt_of_pos _ (by omega)⟩
      by_cases hbit : a / 2 ^ m % 2 = 1
      · have hq1 : qj a b c m = 2 * qj a b c (m + 1) + b / c + (2 * rj a b c (m + 1) + b % c) / c ∧ rj a b c m = (2 * rj a b c (m + 1) + b % c) % c := by
          have h := q_step (a / 2 ^ (m + 1)) (a / 2 ^ m) b c (by omega) (Or.inr (by omega))
          rw [show a / 2 ^ m - 2 * (a / 2 ^ (m + 1)) = 1 from by omega, Int.one_mul, Int.one_mul] at h
          exact h
        rw [hbit] at hy
        clear hs hp hbit
        generalize qj a b c (m + 1) = Q at *; generalize rj a b c (m + 1) = R at *
        have hd : 0 ≤ (2 * R + b % c) / c ∧ (2 * R + b % c) / c ≤ 3 := ⟨Int.ediv_nonneg (by omega) (by omega), Int.ediv_le_of_le_mul (by omega) (by omega)⟩
        by_cases hbig : qj a b c m ≤ 1000000000000000000
        · go_wp2
          go_round
          case rel => exact ⟨m, by omega, by go_num, by omega, by go_num, by go_num⟩
          case measure => simp [intOf]
        · go_wp2
          go_ret2
          exact ⟨rfl, rfl⟩
      · have hq1 : qj a b c m = 2 * qj a b c (m + 1) + 2 * rj a b c (m + 1) / c ∧ rj a b c m = 2 * rj a b c (m + 1) % c := by
          have h := q_step (a / 2 ^ (m + 1)) (a / 2 ^ m) b c (by omega) (Or.inl (by omega))
          rw [show a / 2 ^ m - 2 * (a / 2 ^ (m + 1)) = 0 from by omega, Int.zero_mul, Int.zero_mul, Int.add_zero, Int.add_zero] at h
          exact h
        rw [show a / 2 ^ m % 2 = 0 from by omega] at hy
        clear hs hp hbit
        generalize qj a b c (m + 1) = Q at *; generalize rj a b c (m + 1) = R at *
        have hd : 0 ≤ 2 * R / c ∧ 2 * R / c ≤ 3 := ⟨Int.ediv_nonneg (by omega) (by omega), Int.ediv_le_of_le_mul (by omega) (by omega)⟩
        by_cases hbig : qj a b c m ≤ 1000000000000000000
        · go_wp2
          go_round
          case rel => exact ⟨m, by omega, by go_num, by omega, by go_num, by go_num⟩
          case measure => simp [intOf]
        · go_wp2
          go_ret2
          exact ⟨rfl, rfl⟩
end Go.Proofs.Ytdeoampkbbbleaa
