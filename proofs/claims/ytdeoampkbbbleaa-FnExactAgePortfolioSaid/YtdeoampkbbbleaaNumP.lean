/- Contracts of the roundings of both sides: down, up, perMille. Conditions: the bounds that each names. -/
import Derived.Test.YtdeoampkbbbleaaNum
import Derived.Test.YtdeoampkbbbleaaPureP
namespace Go.Proofs.Ytdeoampkbbbleaa
open Go.RowKit Pu

theorem neg_div {a b : Int} (ha : 0 ≤ a) : (-a).tdiv b = -(a / b) := by rw [Int.neg_tdiv, Int.tdiv_eq_ediv_of_nonneg ha]
theorem neg_mod {a b : Int} (ha : 0 ≤ a) : (-a).tmod b = -(a % b) := by rw [Int.neg_tmod, Int.tmod_eq_emod_of_nonneg ha]
theorem cdiv_bd {a b : Int} (ha : 0 ≤ a) (hb : 1 ≤ b) : 0 ≤ a / b ∧ a / b ≤ a ∧ 0 ≤ a % b ∧ a % b < b :=
  ⟨Int.ediv_nonneg ha (by omega), Int.ediv_le_self _ ha, Int.emod_nonneg _ (by omega), Int.emod_lt_of_pos _ (by omega)⟩
theorem s_DownNeg (a b : Int) (ha : 0 ≤ a) (ha2 : a ≤ 1000000000000000000) (hb : 1 ≤ b) (hb2 : b ≤ 1000000000000000000) (w : World) : Calls Try.prog 268 #[.int .i64 (-a), .int .i64 b] w fun e w' => e = .returned (.int .i64 (-(cdiv a b))) ∧ w = w' := by
  have h := cdiv_bd ha hb
  unfold cdiv
  obtain ⟨Q, hQ⟩ : ∃ Q, a / b = Q := ⟨_, rfl⟩
  obtain ⟨R, hR⟩ : ∃ R, a % b = R := ⟨_, rfl⟩
  have d1 : a.tdiv b = Q := by rw [Int.tdiv_eq_ediv_of_nonneg ha, hQ]
  have d2 : a.tmod b = R := by rw [Int.tmod_eq_emod_of_nonneg ha, hR]
  rw [hQ, hR] at h ⊢
  have i1 : IntKind.i64.wrap (-Q) = -Q := IntWalk.i64_in _ (by omega)
  have i2 : IntKind.i64.wrap (-R) = -R := IntWalk.i64_in _ (by omega)
  have i3 : IntKind.i64.wrap (-Q - 1) = -Q - 1 := IntWalk.i64_in _ (by omega)
  have hb1 : (b == 0) = false := by simp; omega
  by_cases hz : R = 0
  · have hz1 : ¬ (-R < 0) := by omega
    go_enter Try.func268, Try.ntmps268
    go_wp2
    go_ret
    exact ⟨ret_int (by omega), rfl⟩
  · have hz1 : -R < 0 := by omega
    go_enter Try.func268, Try.ntmps268
    go_wp2
    go_ret
    exact ⟨ret_int (by omega), rfl⟩
theorem s_Up01 (a b : Int) (ha : 0 ≤ a) (ha2 : a ≤ 1000000000000000000) (hb : 1 ≤ b) (hb2 : b ≤ 1000000000000000000) (w : World) : Calls Try.prog 261 #[.int .i64 a, .int .i64 b] w fun e w' => e = .returned (.int .i64 (cdiv a b)) ∧ w = w' := by
  have h := cdiv_bd ha hb
  have HD := Lib.hid (s_DownNeg a b ha ha2 hb hb2)
  have hc : 0 ≤ cdiv a b ∧ cdiv a b ≤ a + 1 := by unfold cdiv; omega
  generalize cdiv a b = Q at *
  have i1 : IntKind.i64.wrap (-a) = -a := IntWalk.i64_in _ (by omega)
  have i2 : IntKind.i64.wrap (- -Q) = Q := by rw [IntWalk.i64_in _ (by omega)]; omega
  go_enter Try.func261, Try.ntmps261
  go_wp2_with (go_at_call 268; (with_reducible refine (HD.out _).mono ?_); rintro e w' ⟨rfl, rfl⟩)
  go_ret
  exact ⟨ret_int (by omega), rfl⟩
theorem i_DownNeg (a b : Int) (ha : 0 ≤ a) (ha2 : a ≤ 1000000000000000000) (hb : 1 ≤ b) (hb2 : b ≤ 1000000000000000000) (w : World) : Calls Try.prog 267 #[.int .i64 (-a), .int .i64 b] w fun e w' => e = .returned (.int .i64 (-(cdiv a b))) ∧ w = w' := by
  have h := cdiv_bd ha hb
  unfold cdiv
  obtain ⟨Q, hQ⟩ : ∃ Q, a / b = Q := ⟨_, rfl⟩
  obtain ⟨R, hR⟩ : ∃ R, a % b = R := ⟨_, rfl⟩
  have d1 : a.tdiv b = Q := by rw [Int.tdiv_eq_ediv_of_nonneg ha, hQ]
  have d2 : a.tmod b = R := by rw [Int.tmod_eq_emod_of_nonneg ha, hR]
  rw [hQ, hR] at h ⊢
  have i1 : IntKind.i64.wrap (-Q) = -Q := IntWalk.i64_in _ (by omega)
  have i2 : IntKind.i64.wrap (-R) = -R := IntWalk.i64_in _ (by omega)
  have i3 : IntKind.i64.wrap (-Q - 1) = -Q - 1 := IntWalk.i64_in _ (by omega)
  have hb1 : (b == 0) = false := by simp; omega
  by_cases hz : R = 0
  · have hz1 : ¬ (-R < 0) := by omega
    go_enter Try.func267, Try.ntmps267
    go_wp2
    go_ret
    exact ⟨ret_int (by omega), rfl⟩
  · have hz1 : -R < 0 := by omega
    go_enter Try.func267, Try.ntmps267
    go_wp2
    go_ret
    exact ⟨ret_int (by omega), rfl⟩
theorem i_Up01 (a b : Int) (ha : 0 ≤ a) (ha2 : a ≤ 1000000000000000000) (hb : 1 ≤ b) (hb2 : b ≤ 1000000000000000000) (w : World) : Calls Try.prog 260 #[.int .i64 a, .int .i64 b] w fun e w' => e = .returned (.int .i64 (cdiv a b)) ∧ w = w' := by
  have h := cdiv_bd ha hb
  have HD := Lib.hid (i_DownNeg a b ha ha2 hb hb2)
  have hc : 0 ≤ cdiv a b ∧ cdiv a b ≤ a + 1 := by unfold cdiv; omega
  generalize cdiv a b = Q at *
  have i1 : IntKind.i64.wrap (-a) = -a := IntWalk.i64_in _ (by omega)
  have i2 : IntKind.i64.wrap (- -Q) = Q := by rw [IntWalk.i64_in _ (by omega)]; omega
  go_enter Try.func260, Try.ntmps260
  go_wp2_with (go_at_call 267; (with_reducible refine (HD.out _).mono ?_); rintro e w' ⟨rfl, rfl⟩)
  go_ret
  exact ⟨ret_int (by omega), rfl⟩
end Go.Proofs.Ytdeoampkbbbleaa
