/- Contracts of the functions over numbers alone: ranges, rates, discounts. Conditions: the bounds that each names. -/
import Derived.Test.YtklnikaakpebnaaBase
namespace Go.Proofs.Ytklnikaakpebnaa
open Go.RowKit Pu

def inR (n lo hi : Int) : Bool := decide (lo ≤ n) && decide (n ≤ hi)
theorem inR_true {n lo hi : Int} : inR n lo hi = true ↔ lo ≤ n ∧ n ≤ hi := by simp [inR]
theorem inR_false {n lo hi : Int} : inR n lo hi = false ↔ n < lo ∨ hi < n := by
  rw [Bool.eq_false_iff, ne_eq, inR_true]; omega

theorem s_In (n lo hi : Int) (w : World) : Calls Try.prog 218 #[.int .i64 n, .int .i64 lo, .int .i64 hi] w fun e w' => e = .returned (.bool (inR n lo hi)) ∧ w = w' := by
  unfold inR
  by_cases h1 : lo ≤ n <;> by_cases h2 : n ≤ hi
  all_goals
    go_enter Try.func218, Try.ntmps218
    go_wp2
    go_ret
    exact ⟨ret_bool (by simp [*] <;> omega), rfl⟩
theorem i_In (n lo hi : Int) (w : World) : Calls Try.prog 227 #[.int .i64 n, .int .i64 lo, .int .i64 hi] w fun e w' => e = .returned (.bool (inR n lo hi)) ∧ w = w' := by
  unfold inR
  by_cases h1 : lo ≤ n <;> by_cases h2 : n ≤ hi
  all_goals
    go_enter Try.func227, Try.ntmps227
    go_wp2
    go_ret
    exact ⟨ret_bool (by simp [*] <;> omega), rfl⟩

theorem s_Rate (r : Int) (w : World) : Calls Try.prog 287 #[.int .i64 r] w fun e w' => e = .returned (.bool (inR r 0 200)) ∧ w = w' := by
  go_enter Try.func287, Try.ntmps287
  go_wp2_with (go_at_call 218; refine (s_In _ _ _ _).mono ?_; rintro e w' ⟨rfl, rfl⟩)
  go_ret
  exact ⟨rfl, rfl⟩
theorem i_Rate (r : Int) (w : World) : Calls Try.prog 248 #[.int .i64 r] w fun e w' => e = .returned (.bool (inR r 0 200)) ∧ w = w' := by
  go_enter Try.func248, Try.ntmps248
  go_wp2_with (go_at_call 227; refine (i_In _ _ _ _).mono ?_; rintro e w' ⟨rfl, rfl⟩)
  go_ret
  exact ⟨rfl, rfl⟩
theorem i_Years (r : Int) (w : World) : Calls Try.prog 323 #[.int .i64 r] w fun e w' => e = .returned (.bool (inR r 0 120)) ∧ w = w' := by
  go_enter Try.func323, Try.ntmps323
  go_wp2_with (go_at_call 227; refine (i_In _ _ _ _).mono ?_; rintro e w' ⟨rfl, rfl⟩)
  go_ret
  exact ⟨rfl, rfl⟩
theorem s_Amount6 (r : Int) (w : World) : Calls Try.prog 292 #[.int .i64 r] w fun e w' => e = .returned (.bool (inR r 1 1000000)) ∧ w = w' := by
  go_enter Try.func292, Try.ntmps292
  go_wp2_with (go_at_call 218; refine (s_In _ _ _ _).mono ?_; rintro e w' ⟨rfl, rfl⟩)
  go_ret
  exact ⟨rfl, rfl⟩
theorem s_Sum7 (r : Int) (w : World) : Calls Try.prog 226 #[.int .i64 r] w fun e w' => e = .returned (.bool (inR r 1 100000000)) ∧ w = w' := by
  go_enter Try.func226, Try.ntmps226
  go_wp2_with (go_at_call 218; refine (s_In _ _ _ _).mono ?_; rintro e w' ⟨rfl, rfl⟩)
  go_ret
  exact ⟨rfl, rfl⟩

theorem s_Disc (r : Int) (h0 : 0 ≤ r) (h1 : r ≤ 200) (k : Int) (hk0 : 0 ≤ k) (hk1 : k ≤ 400) (w : World) :
    Calls Try.prog 302 #[.int .i64 r, .int .i64 k] w fun e w' => e = .returned (.int .i64 (disc r k.toNat)) ∧ w = w' := by
  obtain ⟨n, rfl⟩ := Int.eq_ofNat_of_zero_le hk0
  rw [Int.toNat_natCast]
  go_enter Try.func302, Try.ntmps302
  go_wp2
  go_loop [5, 6] (fun d i => ∃ k : Nat, k ≤ n ∧ i = .int .i64 k ∧ d = .int .i64 (disc r k)) (fun _ i => n - (intOf i).toNat)
  case atStart => exact ⟨0, Nat.zero_le _, rfl, rfl⟩
  case round =>
    obtain ⟨k, hk, rfl, rfl⟩ := hrel
    have hd := disc_bd h0 k
    by_cases hlt : k < n
    · go_wp2
      go_round
      case rel => exact ⟨k + 1, by omega, by go_num, rfl⟩
      case measure => simp [intOf]; omega
    · go_wp2
      go_ret
      exact ⟨ret_int (by rw [show k = n from by omega]), rfl⟩
end Go.Proofs.Ytklnikaakpebnaa
