/- Contracts of the functions over numbers alone: ranges, rates, discounts. Conditions: the bounds that each names. -/
import Derived.Test.YtdeoampkbbbleaaBase
namespace Go.Proofs.Ytdeoampkbbbleaa
open Go.RowKit Pu

def inR (n lo hi : Int) : Bool := decide (lo ≤ n) && decide (n ≤ hi)
theorem inR_true {n lo hi : Int} : inR n lo hi = true ↔ lo ≤ n ∧ n ≤ hi := by simp [inR]
theorem inR_false {n lo hi : Int} : inR n lo hi = false ↔ n < lo ∨ hi < n := by
  rw [Bool.eq_false_iff, ne_eq, inR_true]; omega

theorem s_In (n lo hi : Int) (w : World) : Calls Try.prog 142 #[.int .i64 n, .int .i64 lo, .int .i64 hi] w fun e w' => e = .returned (.bool (inR n lo hi)) ∧ w = w' := by
  unfold inR
  by_cases h1 : lo ≤ n <;> by_cases h2 : n ≤ hi
  all_goals
    go_enter Try.func142, Try.ntmps142
    go_wp2
    go_ret
    exact ⟨ret_bool (by simp [*] <;> omega), rfl⟩
theorem i_In (n lo hi : Int) (w : World) : Calls Try.prog 186 #[.int .i64 n, .int .i64 lo, .int .i64 hi] w fun e w' => e = .returned (.bool (inR n lo hi)) ∧ w = w' := by
  unfold inR
  by_cases h1 : lo ≤ n <;> by_cases h2 : n ≤ hi
  all_goals
    go_enter Try.func186, Try.ntmps186
    go_wp2
    go_ret
    exact ⟨ret_bool (by simp [*] <;> omega), rfl⟩

theorem s_Rate (r : Int) (w : World) : Calls Try.prog 222 #[.int .i64 r] w fun e w' => e = .returned (.bool (inR r 0 200)) ∧ w = w' := by
  go_enter Try.func222, Try.ntmps222
  go_wp2_with (go_at_call 142; refine (s_In _ _ _ _).mono ?_; rintro e w' ⟨rfl, rfl⟩)
  go_ret
  exact ⟨rfl, rfl⟩
theorem i_Rate (r : Int) (w : World) : Calls Try.prog 165 #[.int .i64 r] w fun e w' => e = .returned (.bool (inR r 0 200)) ∧ w = w' := by
  go_enter Try.func165, Try.ntmps165
  go_wp2_with (go_at_call 186; refine (i_In _ _ _ _).mono ?_; rintro e w' ⟨rfl, rfl⟩)
  go_ret
  exact ⟨rfl, rfl⟩
theorem i_Years (r : Int) (w : World) : Calls Try.prog 262 #[.int .i64 r] w fun e w' => e = .returned (.bool (inR r 0 120)) ∧ w = w' := by
  go_enter Try.func262, Try.ntmps262
  go_wp2_with (go_at_call 186; refine (i_In _ _ _ _).mono ?_; rintro e w' ⟨rfl, rfl⟩)
  go_ret
  exact ⟨rfl, rfl⟩
theorem s_Amount6 (r : Int) (w : World) : Calls Try.prog 227 #[.int .i64 r] w fun e w' => e = .returned (.bool (inR r 1 1000000)) ∧ w = w' := by
  go_enter Try.func227, Try.ntmps227
  go_wp2_with (go_at_call 142; refine (s_In _ _ _ _).mono ?_; rintro e w' ⟨rfl, rfl⟩)
  go_ret
  exact ⟨rfl, rfl⟩
theorem s_Sum7 (r : Int) (w : World) : Calls Try.prog 236 #[.int .i64 r] w fun e w' => e = .returned (.bool (inR r 1 100000000)) ∧ w = w' := by
  go_enter Try.func236, Try.ntmps236
  go_wp2_with (go_at_call 142; refine (s_In _ _ _ _).mono ?_; rintro e w' ⟨rfl, rfl⟩)
  go_ret
  exact ⟨rfl, rfl⟩

theorem s_Disc (r : Int) (h0 : 0 ≤ r) (h1 : r ≤ 200) (k : Int) (hk0 : 0 ≤ k) (hk1 : k ≤ 400) (w : World) :
    Calls Try.prog 247 #[.int .i64 r, .int .i64 k] w fun e w' => e = .returned (.int .i64 (disc r k.toNat)) ∧ w = w' := by
  obtain ⟨n, rfl⟩ := Int.eq_ofNat_of_zero_le hk0
  rw [Int.toNat_natCast]
  go_enter Try.func247, Try.ntmps247
  go_wp2
  go_loop [5, 6] (fun d i => ∃ k : Nat, k ≤ n ∧ i = .int .i64 k ∧ d = .int .i64 (disc r k)) (fun _ i => n - (intOf i).toNat)
  case atStart => exact ⟨0, Nat.zero_le _, rfl, rfl⟩
  case round =>
    obtain ⟨k, hk, rfl, rfl⟩ := hrel
    have hd := disc_bd h0 k
    by_cases hlt : k < n
    · go_wp2
      go_round
      case rel => exact ⟨k + 1, by omega, by go_num, rfl⟩
      case measure => simp [intOf]; omega
    · go_wp2
      go_ret
      exact ⟨ret_int (by rw [show k = n from by omega]), rfl⟩
end Go.Proofs.Ytdeoampkbbbleaa
