/- Contracts of the laws' likeInts, sum and big. Condition: the slices read as lists. -/
import Derived.Test.YtdeoampkbbbleaaDrawN
namespace Go.Proofs.Ytdeoampkbbbleaa
open Go.RowKit Pu
set_option linter.unusedVariables false
set_option linter.unusedSimpArgs false

/-- Two slices that read as the same list are alike. -/
theorem l_Like (A1 A2 : Option Addr) (n c1 c2 : Nat) (g : Nat → Int) (hn : n ≤ 1048576) (w : World) (hI1 : Ints w A1 n g) (hI2 : Ints w A2 n g) :
    Calls Try.prog 50 #[.slice A1 n c1, .slice A2 n c2] w (Ret w (.bool true)) := by
  go_enter Try.func50, Try.ntmps50
  go_wp2
  go_loopw [5] (fun i wr => ∃ (k : Nat) (y : Grow w), k ≤ n ∧ i = .int .i64 k ∧ wr = y.to) (fun i _ => n - (intOf i).toNat)
  case atStart => exact ⟨0, ⟨w, Below.refl _ _⟩, Nat.zero_le _, rfl, rfl⟩
  case round =>
    obtain ⟨k, x, hk, rfl, rfl⟩ := hrel
    by_cases hlt : k < n
    · obtain ⟨b, off, rfl, hlb, hc⟩ := hI1 k hlt
      obtain ⟨b', off', rfl, hlb', hc'⟩ := hI2 k hlt
      have hc1 : ∀ y : Grow w, y.to.cell? ⟨b, off + k, none⟩ = some (.int .i64 (g k)) := fun y => (y.below.cell (p := ⟨b, off + k, none⟩) hlb).trans hc
      have hc2 : ∀ y : Grow w, y.to.cell? ⟨b', off' + k, none⟩ = some (.int .i64 (g k)) := fun y => (y.below.cell (p := ⟨b', off' + k, none⟩) hlb').trans hc'
      clear hc hc'
      go_wp2_with ((first | with_reducible refine wp_region_in x (by kernel_rfl) (by kernel_rfl) ?_ | with_reducible refine wp_region_here (by kernel_rfl) (by kernel_rfl) ?_); (repeat (go_big_quiet_step ((fail)))); refine wpQuiet_nil ?_; intro w' hw'; obtain ⟨x, rfl⟩ := hw')
      go_roundw
      case rel => exact ⟨k + 1, x, by omega, by go_num, rfl⟩
      case measure => simp [intOf]; omega
    · go_wp2
      go_ret
      exact ⟨rfl, (by repeat' (first | (with_reducible exact Up.refl _) | (with_reducible assumption) | (with_reducible refine Up.alloc ?_ _) | (with_reducible refine Up.drew ?_) | (with_reducible refine Up.grow ?_ _) | (with_reducible refine Up.setCell ?_ (by (try simp); (try omega)) _)))⟩
theorem Rd.fn {w : World} {v : Value} {xs : List Int} (h : Rd w v xs) : ∃ A c, v = .slice A xs.length c ∧ Ints w A xs.length (fun i => xs.getD i 0) := by
  obtain ⟨A, c, h1, _, _, h2⟩ := h
  exact ⟨A, c, h1, h2⟩
theorem l_LikeR (v1 v2 : Value) (xs : List Int) (hn : xs.length ≤ 1048576) (w : World) (h1 : Rd w v1 xs) (h2 : Rd w v2 xs) :
    Calls Try.prog 50 #[v1, v2] w (Ret w (.bool true)) := by
  obtain ⟨A1, c1, rfl, hI1⟩ := h1.fn
  obtain ⟨A2, c2, rfl, hI2⟩ := h2.fn
  exact l_Like A1 A2 _ c1 c2 _ hn w hI1 hI2
/-- The sum of a list whose partial sums stay within 64 bits. -/
theorem l_Sum (A : Option Addr) (n c : Nat) (g : Nat → Int) (hn : n ≤ 1048576) (hg : ∀ m, m ≤ n → -9000000000000000000 ≤ S g 0 m ∧ S g 0 m ≤ 9000000000000000000) (w : World) (hI : Ints w A n g) :
    Calls Try.prog 52 #[.slice A n c] w fun e w' => e = .returned (.int .i64 (S g 0 n)) ∧ w = w' := by
  have HS := Lib.hid hg
  have HE := Lib.hid (S_succ g 0)
  have HZ := Lib.hid (S_zero' g 0)
  generalize S g 0 = Z at *
  clear hg
  go_enter Try.func52, Try.ntmps52
  go_wp2
  go_loop [3, 4] (fun s i => ∃ k : Nat, k ≤ n ∧ i = .int .i64 k ∧ s = .int .i64 (Z k)) (fun _ i => n - (intOf i).toNat)
  case atStart => exact ⟨0, Nat.zero_le _, rfl, by rw [HZ.out]⟩
  case round =>
    obtain ⟨k, hk, rfl, rfl⟩ := hrel
    by_cases hlt : k < n
    · obtain ⟨b, off, rfl, hlb, hcell⟩ := hI k hlt
      have h1 := HS.out (k + 1) (by omega)
      have E := HE.out k
      rw [Nat.zero_add] at E
      have i1 : IntKind.i64.wrap (Z k + g k) = Z (k + 1) := by rw [← E]; exact IntWalk.i64_in _ (by omega)
      clear h1 E
      go_wp2
      go_round
      case rel => exact ⟨k + 1, by omega, by go_num, rfl⟩
      case measure => simp [intOf]; omega
    · have hkn : k = n := by omega
      subst hkn
      go_wp2
      go_ret
      exact ⟨rfl, rfl⟩
theorem l_Big (A : Option Addr) (n c : Nat) (b : Bool) (hb : b = decide (4096 < n)) (hn : n ≤ 9223372036854775807) (w : World) : Calls Try.prog 38 #[.slice A n c] w fun e w' => e = .returned (.bool b) ∧ w = w' := by
  subst hb
  by_cases h : 4096 < n
  all_goals
    have h1 := h
    simp only [h1, decide_true, decide_false]
    go_enter Try.func38, Try.ntmps38
    go_wp2
    go_ret
    exact ⟨ret_bool (by simp <;> omega), rfl⟩
end Go.Proofs.Ytdeoampkbbbleaa
