/- Contract of the program's allIn: whether all numbers of a slice lie in a range. Condition: at most 1048576 numbers. -/
import Derived.Test.YtdeoampkbbbleaaNum
import Derived.Test.YtdeoampkbbbleaaOwn
namespace Go.Proofs.Ytdeoampkbbbleaa
open Go.RowKit Pu

theorem i_AllIn1 (n lo hi : Int) (b1 b2 : Nat) (w : World) (h1 : w.cell? ⟨b1, 0, none⟩ = some (.int .i64 lo)) (h2 : w.cell? ⟨b2, 0, none⟩ = some (.int .i64 hi)) :
    Calls Try.prog 253 #[.int .i64 n, .pointer (some ⟨b1, 0, none⟩), .pointer (some ⟨b2, 0, none⟩)] w fun e w' => e = .returned (.bool (!inR n lo hi)) ∧ w = w' := by
  go_enter Try.func253, Try.ntmps253
  go_wp2_with (go_at_call 186; refine (i_In _ _ _ _).mono ?_; rintro e w' ⟨rfl, rfl⟩)
  go_ret
  exact ⟨rfl, rfl⟩

/-- Some number of at least 0 is returned. -/
def RetNat (w : World) (e : Ending) (w' : World) : Prop := ∃ k : Nat, e = .returned (.int .i64 k) ∧ w = w'

theorem i_IdxAll (A : Option Addr) (n c : Nat) (g : Nat → Int) (lo hi : Int) (b1 b2 : Nat) (hn : n ≤ 1048576) (hall : Hid (∀ i, i < n → lo ≤ g i ∧ g i ≤ hi)) (w : World) (hI : Ints w A n g)
    (h1 : w.cell? ⟨b1, 0, none⟩ = some (.int .i64 lo)) (h2 : w.cell? ⟨b2, 0, none⟩ = some (.int .i64 hi)) :
    Calls Try.prog 266 #[.slice A n c, .func (.func 253) #[] #[.pointer (some ⟨b1, 0, none⟩), .pointer (some ⟨b2, 0, none⟩)]] w fun e w' => e = .returned (.int .i64 (-1)) ∧ w = w' := by
  go_enter Try.func266, Try.ntmps266
  go_wp2
  go_loop [8] (fun i => ∃ k : Nat, k ≤ n ∧ i = .int .i64 k) (fun i => n - (intOf i).toNat)
  case atStart => exact ⟨0, Nat.zero_le _, rfl⟩
  case round =>
    obtain ⟨k, hk, rfl⟩ := hrel
    by_cases hlt : k < n
    · obtain ⟨bb, off, rfl, hlb, hcell⟩ := hI k hlt
      have hr : inR (g k) lo hi = true := inR_true.2 (hall.out k hlt)
      have HC := i_AllIn1 (g k) lo hi b1 b2 w h1 h2
      rw [hr] at HC
      replace HC := Lib.hid HC
      go_wp2_with (go_at_call 253; refine (HC.out).mono ?_; rintro e w' ⟨rfl, rfl⟩)
      go_round
      case rel => exact ⟨k + 1, by omega, by go_num⟩
      case measure => simp [intOf]; omega
    · go_wp2
      go_ret
      exact ⟨rfl, rfl⟩

theorem i_IdxSome (A : Option Addr) (n c : Nat) (g : Nat → Int) (lo hi : Int) (b1 b2 : Nat) (hn : n ≤ 1048576) (hall : Hid (¬ ∀ i, i < n → lo ≤ g i ∧ g i ≤ hi)) (w : World) (hI : Ints w A n g)
    (h1 : w.cell? ⟨b1, 0, none⟩ = some (.int .i64 lo)) (h2 : w.cell? ⟨b2, 0, none⟩ = some (.int .i64 hi)) :
    Calls Try.prog 266 #[.slice A n c, .func (.func 253) #[] #[.pointer (some ⟨b1, 0, none⟩), .pointer (some ⟨b2, 0, none⟩)]] w (RetNat w) := by
  go_enter Try.func266, Try.ntmps266
  go_wp2
  go_loop [8] (fun i => ∃ k : Nat, k ≤ n ∧ i = .int .i64 k ∧ Hid (∀ j, j < k → lo ≤ g j ∧ g j ≤ hi)) (fun i => n - (intOf i).toNat)
  case atStart => exact ⟨0, Nat.zero_le _, rfl, Lib.hid fun j hj => by omega⟩
  case round =>
    obtain ⟨k, hk, rfl, HK⟩ := hrel
    by_cases hlt : k < n
    · obtain ⟨bb, off, rfl, hlb, hcell⟩ := hI k hlt
      have HC := i_AllIn1 (g k) lo hi b1 b2 w h1 h2
      by_cases hr : inR (g k) lo hi = true
      · have HK2 : Hid (∀ j, j < k + 1 → lo ≤ g j ∧ g j ≤ hi) := Lib.hid fun j hj => by
          rcases Nat.lt_or_ge j k with h | h
          · exact HK.out j h
          · rw [show j = k from by omega]; exact inR_true.1 hr
        rw [hr] at HC
        replace HC := Lib.hid HC
        go_wp2_with (go_at_call 253; refine (HC.out).mono ?_; rintro e w' ⟨rfl, rfl⟩)
        go_round
        case rel => exact ⟨k + 1, by omega, by go_num, HK2⟩
        case measure => simp [intOf]; omega
      · have hr := Bool.eq_false_iff.2 hr
        rw [hr] at HC
        replace HC := Lib.hid HC
        go_wp2_with (go_at_call 253; refine (HC.out).mono ?_; rintro e w' ⟨rfl, rfl⟩)
        go_ret
        exact ⟨k, rfl, rfl⟩
    · exact absurd (fun i hi => HK.out i (by omega)) hall.out

theorem i_AllIn (A : Option Addr) (n c : Nat) (g : Nat → Int) (lo hi : Int) (hn : n ≤ 1048576) (b : Bool) (hb : b = true ↔ ∀ i, i < n → lo ≤ g i ∧ g i ≤ hi) (w : World) (hI : Ints w A n g) :
    Calls Try.prog 173 #[.slice A n c, .int .i64 lo, .int .i64 hi] w (Ret w (.bool b)) := by
  cases b with
  | true =>
    have HA := Lib.hid (hb.1 rfl)
    clear hb
    have HI : ∀ w b1 b2, Ints w A n g → w.cell? ⟨b1, 0, none⟩ = some (.int .i64 lo) → w.cell? ⟨b2, 0, none⟩ = some (.int .i64 hi) → Calls Try.prog 252 #[.slice A n c, .func (.func 253) #[] #[.pointer (some ⟨b1, 0, none⟩), .pointer (some ⟨b2, 0, none⟩)]] w fun e w' => e = .returned (.bool false) ∧ w = w' := fun w b1 b2 hI h1 h2 => by
      have HX := Lib.hid (i_IdxAll A n c g lo hi b1 b2 hn HA w hI h1 h2)
      go_enter Try.func252, Try.ntmps252
      go_wp2_with (go_at_call 266; refine (HX.out).mono ?_; rintro e w' ⟨rfl, rfl⟩)
      go_ret
      exact ⟨rfl, rfl⟩
    replace HI := Lib.hid HI
    go_enter Try.func173, Try.ntmps173
    go_wp2_with (go_at_call 252; refine (HI.out _ _ _ (hI.up (by repeat' (first | (with_reducible exact Up.refl _) | (with_reducible assumption) | (with_reducible refine Up.alloc ?_ _) | (with_reducible refine Up.drew ?_) | (with_reducible refine Up.grow ?_ _) | (with_reducible refine Up.setCell ?_ (by (try simp); (try omega)) _)))) (by simp [go_sem]) (by simp [go_sem])).mono ?_; rintro e w' ⟨rfl, rfl⟩)
    go_ret
    exact ⟨rfl, (by repeat' (first | (with_reducible exact Up.refl _) | (with_reducible assumption) | (with_reducible refine Up.alloc ?_ _) | (with_reducible refine Up.drew ?_) | (with_reducible refine Up.grow ?_ _) | (with_reducible refine Up.setCell ?_ (by (try simp); (try omega)) _)))⟩
  | false =>
    have HA : Hid (¬ ∀ i, i < n → lo ≤ g i ∧ g i ≤ hi) := Lib.hid fun h => by have := hb.2 h; cases this
    clear hb
    have HI : ∀ w b1 b2, Ints w A n g → w.cell? ⟨b1, 0, none⟩ = some (.int .i64 lo) → w.cell? ⟨b2, 0, none⟩ = some (.int .i64 hi) → Calls Try.prog 252 #[.slice A n c, .func (.func 253) #[] #[.pointer (some ⟨b1, 0, none⟩), .pointer (some ⟨b2, 0, none⟩)]] w fun e w' => e = .returned (.bool true) ∧ w = w' := fun w b1 b2 hI h1 h2 => by
      have HX := Lib.hid (i_IdxSome A n c g lo hi b1 b2 hn HA w hI h1 h2)
      go_enter Try.func252, Try.ntmps252
      go_wp2_with (go_at_call 266; refine (HX.out).mono ?_; rintro e w' ⟨k, rfl, rfl⟩)
      go_ret
      exact ⟨ret_bool (by simp), rfl⟩
    replace HI := Lib.hid HI
    go_enter Try.func173, Try.ntmps173
    go_wp2_with (go_at_call 252; refine (HI.out _ _ _ (hI.up (by repeat' (first | (with_reducible exact Up.refl _) | (with_reducible assumption) | (with_reducible refine Up.alloc ?_ _) | (with_reducible refine Up.drew ?_) | (with_reducible refine Up.grow ?_ _) | (with_reducible refine Up.setCell ?_ (by (try simp); (try omega)) _)))) (by simp [go_sem]) (by simp [go_sem])).mono ?_; rintro e w' ⟨rfl, rfl⟩)
    go_ret
    exact ⟨rfl, (by repeat' (first | (with_reducible exact Up.refl _) | (with_reducible assumption) | (with_reducible refine Up.alloc ?_ _) | (with_reducible refine Up.drew ?_) | (with_reducible refine Up.grow ?_ _) | (with_reducible refine Up.setCell ?_ (by (try simp); (try omega)) _)))⟩

end Go.Proofs.Ytdeoampkbbbleaa
