/- Contracts of the program's allIn and of its sickness tables. Condition: the slices read as the tables' numbers. -/
import Derived.Test.YtegabpilmjicgaaS09
import Derived.Test.YtegabpilmjicgaaOwn
namespace Go.Proofs.Ytegabpilmjicgaa
open Go.RowKit Pu

theorem i_AllIn1 (n lo hi : Int) (b1 b2 : Nat) (w : World) (h1 : w.cell? ⟨b1, 0, none⟩ = some (.int .i64 lo)) (h2 : w.cell? ⟨b2, 0, none⟩ = some (.int .i64 hi)) :
    Calls Try.prog 161 #[.int .i64 n, .pointer (some ⟨b1, 0, none⟩), .pointer (some ⟨b2, 0, none⟩)] w fun e w' => e = .returned (.bool (!inR n lo hi)) ∧ w = w' := by
  go_enter Try.func161, Try.ntmps161
  go_wp2_with (go_at_call 96; refine (i_In _ _ _ _).mono ?_; rintro e w' ⟨rfl, rfl⟩)
  go_ret
  exact ⟨rfl, rfl⟩

/-- Some number of at least 0 is returned. -/
def RetNat (w : World) (e : Ending) (w' : World) : Prop := ∃ k : Nat, e = .returned (.int .i64 k) ∧ w = w'

theorem i_IdxAll (A : Option Addr) (n c : Nat) (g : Nat → Int) (lo hi : Int) (b1 b2 : Nat) (hn : n ≤ 1048576) (hall : Hid (∀ i, i < n → lo ≤ g i ∧ g i ≤ hi)) (w : World) (hI : Ints w A n g)
    (h1 : w.cell? ⟨b1, 0, none⟩ = some (.int .i64 lo)) (h2 : w.cell? ⟨b2, 0, none⟩ = some (.int .i64 hi)) :
    Calls Try.prog 162 #[.slice A n c, .func (.func 161) #[] #[.pointer (some ⟨b1, 0, none⟩), .pointer (some ⟨b2, 0, none⟩)]] w fun e w' => e = .returned (.int .i64 (-1)) ∧ w = w' := by
  go_enter Try.func162, Try.ntmps162
  go_wp2
  go_loop [8] (fun i => ∃ k : Nat, k ≤ n ∧ i = .int .i64 k) (fun i => n - (intOf i).toNat)
  case atStart => exact ⟨0, Nat.zero_le _, rfl⟩
  case round =>
    obtain ⟨k, hk, rfl⟩ := hrel
    by_cases hlt : k < n
    · obtain ⟨bb, off, rfl, hlb, hcell⟩ := hI k hlt
      have hr : inR (g k) lo hi = true := inR_true.2 (hall.out k hlt)
      have HC := i_AllIn1 (g k) lo hi b1 b2 w h1 h2
      rw [hr] at HC
      replace HC := Lib.hid HC
      go_wp2_with (go_at_call 161; refine (HC.out).mono ?_; rintro e w' ⟨rfl, rfl⟩)
      go_round
      case rel => exact ⟨k + 1, by omega, by go_num⟩
      case measure => simp [intOf]; omega
    · go_wp2
      go_ret
      exact ⟨rfl, rfl⟩

theorem i_IdxSome (A : Option Addr) (n c : Nat) (g : Nat → Int) (lo hi : Int) (b1 b2 : Nat) (hn : n ≤ 1048576) (hall : Hid (¬ ∀ i, i < n → lo ≤ g i ∧ g i ≤ hi)) (w : World) (hI : Ints w A n g)
    (h1 : w.cell? ⟨b1, 0, none⟩ = some (.int .i64 lo)) (h2 : w.cell? ⟨b2, 0, none⟩ = some (.int .i64 hi)) :
    Calls Try.prog 162 #[.slice A n c, .func (.func 161) #[] #[.pointer (some ⟨b1, 0, none⟩), .pointer (some ⟨b2, 0, none⟩)]] w (RetNat w) := by
  go_enter Try.func162, Try.ntmps162
  go_wp2
  go_loop [8] (fun i => ∃ k : Nat, k ≤ n ∧ i = .int .i64 k ∧ Hid (∀ j, j < k → lo ≤ g j ∧ g j ≤ hi)) (fun i => n - (intOf i).toNat)
  case atStart => exact ⟨0, Nat.zero_le _, rfl, Lib.hid fun j hj => by omega⟩
  case round =>
    obtain ⟨k, hk, rfl, HK⟩ := hrel
    by_cases hlt : k < n
    · obtain ⟨bb, off, rfl, hlb, hcell⟩ := hI k hlt
      have HC := i_AllIn1 (g k) lo hi b1 b2 w h1 h2
      by_cases hr : inR (g k) lo hi = true
      · have HK2 : Hid (∀ j, j < k + 1 → lo ≤ g j ∧ g j ≤ hi) := Lib.hid fun j hj => by
          rcases Nat.lt_or_ge j k with h | h
          · exact HK.out j h
          · rw [show j = k from by omega]; exact inR_true.1 hr
        rw [hr] at HC
        replace HC := Lib.hid HC
        go_wp2_with (go_at_call 161; refine (HC.out).mono ?_; rintro e w' ⟨rfl, rfl⟩)
        go_round
        case rel => exact ⟨k + 1, by omega, by go_num, HK2⟩
        case measure => simp [intOf]; omega
      · have hr := Bool.eq_false_iff.2 hr
        rw [hr] at HC
        replace HC := Lib.hid HC
        go_wp2_with (go_at_call 161; refine (HC.out).mono ?_; rintro e w' ⟨rfl, rfl⟩)
        go_ret
        exact ⟨k, rfl, rfl⟩
    · exact absurd (fun i hi => HK.out i (by omega)) hall.out

theorem i_AllIn (A : Option Addr) (n c : Nat) (g : Nat → Int) (lo hi : Int) (hn : n ≤ 1048576) (b : Bool) (hb : b = true ↔ ∀ i, i < n → lo ≤ g i ∧ g i ≤ hi) (w : World) (hI : Ints w A n g) :
    Calls Try.prog 157 #[.slice A n c, .int .i64 lo, .int .i64 hi] w (Ret w (.bool b)) := by
  cases b with
  | true =>
    have HA := Lib.hid (hb.1 rfl)
    clear hb
    have HI : ∀ w b1 b2, Ints w A n g → w.cell? ⟨b1, 0, none⟩ = some (.int .i64 lo) → w.cell? ⟨b2, 0, none⟩ = some (.int .i64 hi) → Calls Try.prog 160 #[.slice A n c, .func (.func 161) #[] #[.pointer (some ⟨b1, 0, none⟩), .pointer (some ⟨b2, 0, none⟩)]] w fun e w' => e = .returned (.bool false) ∧ w = w' := fun w b1 b2 hI h1 h2 => by
      have HX := Lib.hid (i_IdxAll A n c g lo hi b1 b2 hn HA w hI h1 h2)
      go_enter Try.func160, Try.ntmps160
      go_wp2_with (go_at_call 162; refine (HX.out).mono ?_; rintro e w' ⟨rfl, rfl⟩)
      go_ret
      exact ⟨rfl, rfl⟩
    replace HI := Lib.hid HI
    go_enter Try.func157, Try.ntmps157
    go_wp2_with (go_at_call 160; refine (HI.out _ _ _ (hI.up (by repeat' (first | (with_reducible exact Up.refl _) | (with_reducible assumption) | (with_reducible refine Up.alloc ?_ _) | (with_reducible refine Up.drew ?_) | (with_reducible refine Up.grow ?_ _) | (with_reducible refine Up.setCell ?_ (by (try simp); (try omega)) _)))) (by simp [go_sem]) (by simp [go_sem])).mono ?_; rintro e w' ⟨rfl, rfl⟩)
    go_ret
    exact ⟨rfl, (by repeat' (first | (with_reducible exact Up.refl _) | (with_reducible assumption) | (with_reducible refine Up.alloc ?_ _) | (with_reducible refine Up.drew ?_) | (with_reducible refine Up.grow ?_ _) | (with_reducible refine Up.setCell ?_ (by (try simp); (try omega)) _)))⟩
  | false =>
    have HA : Hid (¬ ∀ i, i < n → lo ≤ g i ∧ g i ≤ hi) := Lib.hid fun h => by have := hb.2 h; cases this
    clear hb
    have HI : ∀ w b1 b2, Ints w A n g → w.cell? ⟨b1, 0, none⟩ = some (.int .i64 lo) → w.cell? ⟨b2, 0, none⟩ = some (.int .i64 hi) → Calls Try.prog 160 #[.slice A n c, .func (.func 161) #[] #[.pointer (some ⟨b1, 0, none⟩), .pointer (some ⟨b2, 0, none⟩)]] w fun e w' => e = .returned (.bool true) ∧ w = w' := fun w b1 b2 hI h1 h2 => by
      have HX := Lib.hid (i_IdxSome A n c g lo hi b1 b2 hn HA w hI h1 h2)
      go_enter Try.func160, Try.ntmps160
      go_wp2_with (go_at_call 162; refine (HX.out).mono ?_; rintro e w' ⟨k, rfl, rfl⟩)
      go_ret
      exact ⟨ret_bool (by simp), rfl⟩
    replace HI := Lib.hid HI
    go_enter Try.func157, Try.ntmps157
    go_wp2_with (go_at_call 160; refine (HI.out _ _ _ (hI.up (by repeat' (first | (with_reducible exact Up.refl _) | (with_reducible assumption) | (with_reducible refine Up.alloc ?_ _) | (with_reducible refine Up.drew ?_) | (with_reducible refine Up.grow ?_ _) | (with_reducible refine Up.setCell ?_ (by (try simp); (try omega)) _)))) (by simp [go_sem]) (by simp [go_sem])).mono ?_; rintro e w' ⟨rfl, rfl⟩)
    go_ret
    exact ⟨rfl, (by repeat' (first | (with_reducible exact Up.refl _) | (with_reducible assumption) | (with_reducible refine Up.alloc ?_ _) | (with_reducible refine Up.drew ?_) | (with_reducible refine Up.grow ?_ _) | (with_reducible refine Up.setCell ?_ (by (try simp); (try omega)) _)))⟩

theorem i_SValid (Z : Tab) (b : Bool) (hb : b = true ↔ Z.SOk) (v : Value) (w : World) (hv : TabAt w Z v) :
    Calls Try.prog 147 #[v] w (Ret w (.bool b)) := by
  obtain ⟨A, c, rfl, hc, hm, hbig, hI⟩ := hv
  by_cases h1 : inR Z.first 0 100 = true
  case neg =>
    have hbf : b = false := by
      cases hbb : b with
      | false => rfl
      | true => exact absurd (inR_true.2 ⟨(hb.1 hbb).lo, (hb.1 hbb).hi⟩) h1
    subst hbf
    have h1 := Bool.eq_false_iff.2 h1
    clear hb
    go_enter Try.func147, Try.ntmps147
    go_wp2_with (first | (go_at_call 92; (with_reducible refine (s_In _ _ _ _).mono ?_); rintro e w' ⟨rfl, rfl⟩) | (go_at_call 96; (with_reducible refine (i_In _ _ _ _).mono ?_); rintro e w' ⟨rfl, rfl⟩) | (go_at_call 142; (with_reducible refine (s_Rate _ _).mono ?_); rintro e w' ⟨rfl, rfl⟩) | (go_at_call 104; (with_reducible refine (i_Rate _ _).mono ?_); rintro e w' ⟨rfl, rfl⟩) | (go_at_call 132; (with_reducible refine (i_Years _ _).mono ?_); rintro e w' ⟨rfl, rfl⟩) | (go_at_call 98; (with_reducible refine (s_Amount6 _ _).mono ?_); rintro e w' ⟨rfl, rfl⟩) | (go_at_call 108; (with_reducible refine (s_Sum7 _ _).mono ?_); rintro e w' ⟨rfl, rfl⟩) | ((first | with_reducible refine wp_region_in x (by kernel_rfl) (by kernel_rfl) ?_ | with_reducible refine wp_region_here (by kernel_rfl) (by kernel_rfl) ?_); (repeat (go_big_quiet_step ((first | (go_at_call 92; with_reducible exact Ret.same _ (s_In _ _ _ _)) | (go_at_call 96; with_reducible exact Ret.same _ (i_In _ _ _ _)) | (go_at_call 142; with_reducible exact Ret.same _ (s_Rate _ _)) | (go_at_call 104; with_reducible exact Ret.same _ (i_Rate _ _)) | (go_at_call 132; with_reducible exact Ret.same _ (i_Years _ _)) | (go_at_call 98; with_reducible exact Ret.same _ (s_Amount6 _ _)) | (go_at_call 108; with_reducible exact Ret.same _ (s_Sum7 _ _)))))); refine wpQuiet_nil ?_; intro w' hw'; obtain ⟨x, rfl⟩ := hw'))
    go_ret
    exact ⟨rfl, (by repeat' (first | (with_reducible exact Up.refl _) | (with_reducible assumption) | (with_reducible refine Up.alloc ?_ _) | (with_reducible refine Up.drew ?_) | (with_reducible refine Up.grow ?_ _) | (with_reducible refine Up.setCell ?_ (by (try simp); (try omega)) _)))⟩
  by_cases h2 : inR Z.n 1 120 = true
  case neg =>
    have hbf : b = false := by
      cases hbb : b with
      | false => rfl
      | true =>
        have h := hb.1 hbb
        have := h.n1; have := h.n120
        exact absurd (inR_true.2 ⟨by omega, by omega⟩) h2
    subst hbf
    have h2 := Bool.eq_false_iff.2 h2
    clear hb
    go_enter Try.func147, Try.ntmps147
    go_wp2_with (first | (go_at_call 136; (with_reducible refine (i_Length _ _ _ (by omega) _).mono ?_); rintro e w' ⟨rfl, rfl⟩) | (go_at_call 92; (with_reducible refine (s_In _ _ _ _).mono ?_); rintro e w' ⟨rfl, rfl⟩) | (go_at_call 96; (with_reducible refine (i_In _ _ _ _).mono ?_); rintro e w' ⟨rfl, rfl⟩) | (go_at_call 142; (with_reducible refine (s_Rate _ _).mono ?_); rintro e w' ⟨rfl, rfl⟩) | (go_at_call 104; (with_reducible refine (i_Rate _ _).mono ?_); rintro e w' ⟨rfl, rfl⟩) | (go_at_call 132; (with_reducible refine (i_Years _ _).mono ?_); rintro e w' ⟨rfl, rfl⟩) | (go_at_call 98; (with_reducible refine (s_Amount6 _ _).mono ?_); rintro e w' ⟨rfl, rfl⟩) | (go_at_call 108; (with_reducible refine (s_Sum7 _ _).mono ?_); rintro e w' ⟨rfl, rfl⟩) | ((first | with_reducible refine wp_region_in x (by kernel_rfl) (by kernel_rfl) ?_ | with_reducible refine wp_region_here (by kernel_rfl) (by kernel_rfl) ?_); (repeat (go_big_quiet_step ((first | (go_at_call 136; with_reducible exact Ret.same _ (i_Length _ _ _ (by omega) _)) | (go_at_call 92; with_reducible exact Ret.same _ (s_In _ _ _ _)) | (go_at_call 96; with_reducible exact Ret.same _ (i_In _ _ _ _)) | (go_at_call 142; with_reducible exact Ret.same _ (s_Rate _ _)) | (go_at_call 104; with_reducible exact Ret.same _ (i_Rate _ _)) | (go_at_call 132; with_reducible exact Ret.same _ (i_Years _ _)) | (go_at_call 98; with_reducible exact Ret.same _ (s_Amount6 _ _)) | (go_at_call 108; with_reducible exact Ret.same _ (s_Sum7 _ _)))))); refine wpQuiet_nil ?_; intro w' hw'; obtain ⟨x, rfl⟩ := hw'))
    go_ret
    exact ⟨rfl, (by repeat' (first | (with_reducible exact Up.refl _) | (with_reducible assumption) | (with_reducible refine Up.alloc ?_ _) | (with_reducible refine Up.drew ?_) | (with_reducible refine Up.grow ?_ _) | (with_reducible refine Up.setCell ?_ (by (try simp); (try omega)) _)))⟩
  have h1' := inR_true.1 h1
  have h2' := inR_true.1 h2
  have hb2 : b = true ↔ ∀ i, i < Z.n → 0 ≤ Z.f i ∧ Z.f i ≤ 52000 := by
    rw [hb]
    exact ⟨fun h => h.all, fun h => ⟨h1'.1, h1'.2, by omega, by omega, h⟩⟩
  have HW := Lib.hid fun w h => i_AllIn A Z.n c Z.f 0 52000 hbig b hb2 w h
  clear hb hb2
  go_enter Try.func147, Try.ntmps147
  go_wp2_with (first | (go_at_call 136; (with_reducible refine (i_Length _ _ _ (by omega) _).mono ?_); rintro e w' ⟨rfl, rfl⟩) | (go_at_call 157; (with_reducible refine (HW.out _ (hI.up (by repeat' (first | (with_reducible exact Up.refl _) | (with_reducible assumption) | (with_reducible refine Up.alloc ?_ _) | (with_reducible refine Up.drew ?_) | (with_reducible refine Up.grow ?_ _) | (with_reducible refine Up.setCell ?_ (by (try simp); (try omega)) _))))).mono ?_); rintro e w' ⟨rfl, hb⟩; first | (obtain ⟨x, rfl⟩ := Grow.on x hb) | (obtain ⟨x, rfl⟩ := Grow.mk' hb)) | (go_at_call 92; (with_reducible refine (s_In _ _ _ _).mono ?_); rintro e w' ⟨rfl, rfl⟩) | (go_at_call 96; (with_reducible refine (i_In _ _ _ _).mono ?_); rintro e w' ⟨rfl, rfl⟩) | (go_at_call 142; (with_reducible refine (s_Rate _ _).mono ?_); rintro e w' ⟨rfl, rfl⟩) | (go_at_call 104; (with_reducible refine (i_Rate _ _).mono ?_); rintro e w' ⟨rfl, rfl⟩) | (go_at_call 132; (with_reducible refine (i_Years _ _).mono ?_); rintro e w' ⟨rfl, rfl⟩) | (go_at_call 98; (with_reducible refine (s_Amount6 _ _).mono ?_); rintro e w' ⟨rfl, rfl⟩) | (go_at_call 108; (with_reducible refine (s_Sum7 _ _).mono ?_); rintro e w' ⟨rfl, rfl⟩) | ((first | with_reducible refine wp_region_in x (by kernel_rfl) (by kernel_rfl) ?_ | with_reducible refine wp_region_here (by kernel_rfl) (by kernel_rfl) ?_); (repeat (go_big_quiet_step ((first | (go_at_call 136; with_reducible exact Ret.same _ (i_Length _ _ _ (by omega) _)) | (go_at_call 157; with_reducible exact Ret.grow _ (HW.out _ (hI.up (by repeat' (first | (with_reducible exact Up.refl _) | (with_reducible assumption) | (with_reducible refine Up.alloc ?_ _) | (with_reducible refine Up.drew ?_) | (with_reducible refine Up.grow ?_ _) | (with_reducible refine Up.setCell ?_ (by (try simp); (try omega)) _)))))) | (go_at_call 92; with_reducible exact Ret.same _ (s_In _ _ _ _)) | (go_at_call 96; with_reducible exact Ret.same _ (i_In _ _ _ _)) | (go_at_call 142; with_reducible exact Ret.same _ (s_Rate _ _)) | (go_at_call 104; with_reducible exact Ret.same _ (i_Rate _ _)) | (go_at_call 132; with_reducible exact Ret.same _ (i_Years _ _)) | (go_at_call 98; with_reducible exact Ret.same _ (s_Amount6 _ _)) | (go_at_call 108; with_reducible exact Ret.same _ (s_Sum7 _ _)))))); refine wpQuiet_nil ?_; intro w' hw'; obtain ⟨x, rfl⟩ := hw'))
  go_ret
  exact ⟨rfl, (by repeat' (first | (with_reducible exact Up.refl _) | (with_reducible assumption) | (with_reducible refine Up.alloc ?_ _) | (with_reducible refine Up.drew ?_) | (with_reducible refine Up.grow ?_ _) | (with_reducible refine Up.setCell ?_ (by (try simp); (try omega)) _)))⟩
theorem inR_wk2 {Z : Tab} (age : Int) : inR age Z.first (Z.first + Z.n - 1) = true ↔ 0 ≤ age - Z.first ∧ age - Z.first < Z.n := by rw [inR_true]; omega
set_option maxRecDepth 100000 in
theorem i_Weeks {Z : Tab} (hZ : Z.SOk) (age : Int) (v : Value) (w : World) (hv : TabAt w Z v) :
    Calls Try.prog 148 #[v, .int .i64 age] w (Ret w (.int .i64 (Z.wk age))) := by
  obtain ⟨A, c, rfl, hc, hm, hbig, hI⟩ := hv
  have q1 := hZ.lo; have q2 := hZ.hi; have q3 := hZ.n1; have q4 := hZ.n120
  have i1 : IntKind.i64.wrap (Z.first + Z.n) = Z.first + Z.n := IntWalk.i64_in _ (by omega)
  have i2 : IntKind.i64.wrap (Z.first + Z.n - 1) = Z.first + Z.n - 1 := IntWalk.i64_in _ (by omega)
  by_cases hin : inR age Z.first (Z.first + Z.n - 1) = true
  · have hin' := (inR_wk2 age).1 hin
    rw [wk_in hin'.1 hin'.2]
    obtain ⟨b, off, rfl, hlb, hcell⟩ := hI (age - Z.first).toNat (by omega)
    have hin2 := hin'.2
    have hcx : ∀ x : Grow (w.alloc (.cells #[.int .i64 Z.first, .slice (some ⟨b, off, none⟩) Z.n c] 53)), x.to.cell? ⟨b, off + (age - Z.first).toNat, none⟩ = some (.int .i64 (Z.f (age - Z.first).toNat)) := fun x =>
      (x.below.cell (p := ⟨b, off + (age - Z.first).toNat, none⟩) (by simp; omega)).trans ((World.cell?_alloc_lt _ _ _ (by exact hlb)).trans hcell)
    go_enter Try.func148, Try.ntmps148
    go_wp2_with (first | (go_at_call 136; (with_reducible refine (i_Length _ _ _ (by omega) _).mono ?_); rintro e w' ⟨rfl, rfl⟩) | (go_at_call 92; (with_reducible refine (s_In _ _ _ _).mono ?_); rintro e w' ⟨rfl, rfl⟩) | (go_at_call 96; (with_reducible refine (i_In _ _ _ _).mono ?_); rintro e w' ⟨rfl, rfl⟩) | (go_at_call 142; (with_reducible refine (s_Rate _ _).mono ?_); rintro e w' ⟨rfl, rfl⟩) | (go_at_call 104; (with_reducible refine (i_Rate _ _).mono ?_); rintro e w' ⟨rfl, rfl⟩) | (go_at_call 132; (with_reducible refine (i_Years _ _).mono ?_); rintro e w' ⟨rfl, rfl⟩) | (go_at_call 98; (with_reducible refine (s_Amount6 _ _).mono ?_); rintro e w' ⟨rfl, rfl⟩) | (go_at_call 108; (with_reducible refine (s_Sum7 _ _).mono ?_); rintro e w' ⟨rfl, rfl⟩) | ((first | with_reducible refine wp_region_in x (by kernel_rfl) (by kernel_rfl) ?_ | with_reducible refine wp_region_here (by kernel_rfl) (by kernel_rfl) ?_); (repeat (go_big_quiet_step ((first | (go_at_call 136; with_reducible exact Ret.same _ (i_Length _ _ _ (by omega) _)) | (go_at_call 92; with_reducible exact Ret.same _ (s_In _ _ _ _)) | (go_at_call 96; with_reducible exact Ret.same _ (i_In _ _ _ _)) | (go_at_call 142; with_reducible exact Ret.same _ (s_Rate _ _)) | (go_at_call 104; with_reducible exact Ret.same _ (i_Rate _ _)) | (go_at_call 132; with_reducible exact Ret.same _ (i_Years _ _)) | (go_at_call 98; with_reducible exact Ret.same _ (s_Amount6 _ _)) | (go_at_call 108; with_reducible exact Ret.same _ (s_Sum7 _ _)))))); refine wpQuiet_nil ?_; intro w' hw'; obtain ⟨x, rfl⟩ := hw'))
    go_ret
    exact ⟨rfl, (by repeat' (first | (with_reducible exact Up.refl _) | (with_reducible assumption) | (with_reducible refine Up.alloc ?_ _) | (with_reducible refine Up.drew ?_) | (with_reducible refine Up.grow ?_ _) | (with_reducible refine Up.setCell ?_ (by (try simp); (try omega)) _)))⟩
  · have hin0 : ¬ (0 ≤ age - Z.first ∧ age - Z.first < Z.n) := fun h => hin ((inR_wk2 age).2 h)
    have hin := Bool.eq_false_iff.2 hin
    rw [wk_out hin0]
    clear hin0
    go_enter Try.func148, Try.ntmps148
    go_wp2_with (first | (go_at_call 136; (with_reducible refine (i_Length _ _ _ (by omega) _).mono ?_); rintro e w' ⟨rfl, rfl⟩) | (go_at_call 92; (with_reducible refine (s_In _ _ _ _).mono ?_); rintro e w' ⟨rfl, rfl⟩) | (go_at_call 96; (with_reducible refine (i_In _ _ _ _).mono ?_); rintro e w' ⟨rfl, rfl⟩) | (go_at_call 142; (with_reducible refine (s_Rate _ _).mono ?_); rintro e w' ⟨rfl, rfl⟩) | (go_at_call 104; (with_reducible refine (i_Rate _ _).mono ?_); rintro e w' ⟨rfl, rfl⟩) | (go_at_call 132; (with_reducible refine (i_Years _ _).mono ?_); rintro e w' ⟨rfl, rfl⟩) | (go_at_call 98; (with_reducible refine (s_Amount6 _ _).mono ?_); rintro e w' ⟨rfl, rfl⟩) | (go_at_call 108; (with_reducible refine (s_Sum7 _ _).mono ?_); rintro e w' ⟨rfl, rfl⟩) | ((first | with_reducible refine wp_region_in x (by kernel_rfl) (by kernel_rfl) ?_ | with_reducible refine wp_region_here (by kernel_rfl) (by kernel_rfl) ?_); (repeat (go_big_quiet_step ((first | (go_at_call 136; with_reducible exact Ret.same _ (i_Length _ _ _ (by omega) _)) | (go_at_call 92; with_reducible exact Ret.same _ (s_In _ _ _ _)) | (go_at_call 96; with_reducible exact Ret.same _ (i_In _ _ _ _)) | (go_at_call 142; with_reducible exact Ret.same _ (s_Rate _ _)) | (go_at_call 104; with_reducible exact Ret.same _ (i_Rate _ _)) | (go_at_call 132; with_reducible exact Ret.same _ (i_Years _ _)) | (go_at_call 98; with_reducible exact Ret.same _ (s_Amount6 _ _)) | (go_at_call 108; with_reducible exact Ret.same _ (s_Sum7 _ _)))))); refine wpQuiet_nil ?_; intro w' hw'; obtain ⟨x, rfl⟩ := hw'))
    go_ret
    exact ⟨rfl, (by repeat' (first | (with_reducible exact Up.refl _) | (with_reducible assumption) | (with_reducible refine Up.alloc ?_ _) | (with_reducible refine Up.drew ?_) | (with_reducible refine Up.grow ?_ _) | (with_reducible refine Up.setCell ?_ (by (try simp); (try omega)) _)))⟩
end Go.Proofs.Ytegabpilmjicgaa
