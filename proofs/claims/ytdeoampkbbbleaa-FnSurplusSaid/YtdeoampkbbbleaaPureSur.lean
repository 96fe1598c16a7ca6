/- The plain arithmetic of the surplus: its sources add up, the worst is the least, the earned rate is the greatest. No program in sight. Conditions: a valid year. -/
import Derived.Test.YtdeoampkbbbleaaSur3
import Derived.Test.YtdeoampkbbbleaaSur4
namespace Go.Proofs.Ytdeoampkbbbleaa
open Go.RowKit Pu

theorem bst_max (g : Nat → Int) : ∀ n i, i < n → g i ≤ g (bst g n)
  | 0, i, h => by omega
  | n + 1, i, h => by
    rw [bst_succ]
    have ih := bst_max g n
    by_cases hi : i < n
    · have := ih i hi
      split <;> omega
    · have : i = n := by omega
      subst this
      split <;> omega
theorem Yr.ws_lt (y : Yr) (r : Int) : y.ws r < 3 := by
  unfold Yr.ws
  rcases bst_lt (fun i => -(y.sg r i)) 3 with h | h <;> omega
theorem Yr.ws_min (y : Yr) (r : Int) : y.sg r (y.ws r) ≤ min (min (y.sg r 0) (y.sg r 1)) (y.sg r 2) := by
  have h (i : Nat) (hi : i < 3) : y.sg r (y.ws r) ≤ y.sg r i := by
    have := bst_max (fun i => -(y.sg r i)) 3 i hi
    unfold Yr.ws
    omega
  have h0 := h 0 (by omega); have h1 := h 1 (by omega); have h2 := h 2 (by omega)
  omega
theorem Yr.src_sum (y : Yr) (r : Int) : y.sg r 0 + y.sg r 1 + y.sg r 2 = y.fin - y.a6 := by
  show (y.a4 - y.exp r) + (y.a2 - y.a3) + (y.a0 + y.a1 + y.exp r - y.a5 - y.a6) = y.fin - y.a6
  unfold Yr.fin
  omega
theorem Yr.er_ok {y : Yr} (hO : y.Ok) : ∀ k : Nat, y.exp (y.er k) ≤ y.a4
  | 0 => by
    have : y.exp ((0 : Nat) : Int) = 0 := by unfold Yr.exp; simp
    show y.exp ((0 : Nat) : Int) ≤ y.a4
    rw [this]
    unfold Yr.Ok at hO; omega
  | k + 1 => by
    by_cases h : y.exp ((k + 1 : Nat) : Int) ≤ y.a4
    · rw [y.er_stop (k + 1) h]; exact h
    · rw [(Yr.er_step hO (k + 1) h).2]
      exact Yr.er_ok hO k
theorem Yr.er_next {y : Yr} (hO : y.Ok) : ∀ k : Nat, y.er k < k → y.a4 < y.exp ((y.er k : Int) + 1)
  | 0, h => by omega
  | k + 1, h => by
    by_cases he : y.exp ((k + 1 : Nat) : Int) ≤ y.a4
    · rw [y.er_stop (k + 1) he] at h; omega
    · have e := (Yr.er_step hO (k + 1) he).2
      rw [Nat.add_sub_cancel] at e
      rw [e] at h ⊢
      by_cases hk : y.er k < k
      · exact Yr.er_next hO k hk
      · have hkk : y.er k = k := by have := y.er_le k; omega
        rw [hkk]
        have : ((k : Int) + 1) = ((k + 1 : Nat) : Int) := by omega
        rw [this]; omega
end Go.Proofs.Ytdeoampkbbbleaa
