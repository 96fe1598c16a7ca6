/- Contracts of the reference's sickness tables. Condition: the slices read as the tables' numbers. -/
import Derived.Test.YtegabpilmjicgaaSCode
import Derived.Test.YtegabpilmjicgaaPureS
namespace Go.Proofs.Ytegabpilmjicgaa
open Go.RowKit Pu

theorem s_Within (A : Option Addr) (n c : Nat) (g : Nat → Int) (most lo hi : Int) (hn : n ≤ 1048576) (b : Bool) (hb : b = true ↔ (n : Int) ≤ most ∧ ∀ i, i < n → lo ≤ g i ∧ g i ≤ hi) (w : World) (hI : Ints w A n g) :
    Calls Try.prog 156 #[.slice A n c, .int .i64 most, .int .i64 lo, .int .i64 hi] w fun e w' => e = .returned (.bool b) ∧ w = w' := by
  have HB := Lib.hid hb
  clear hb
  go_enter Try.func156, Try.ntmps156
  go_wp2
  go_loop [9] (fun i => ∃ k : Nat, k ≤ n ∧ i = .int .i64 k ∧ Hid (∀ j, j < k → lo ≤ g j ∧ g j ≤ hi)) (fun i => n - (intOf i).toNat)
  case atStart => exact ⟨0, Nat.zero_le _, rfl, Lib.hid fun j hj => by omega⟩
  case round =>
    obtain ⟨k, hk, rfl, HK⟩ := hrel
    by_cases hlt : k < n
    · obtain ⟨b1, off, rfl, hlb, hcell⟩ := hI k hlt
      by_cases hr : inR (g k) lo hi = true
      · have HK2 : Hid (∀ j, j < k + 1 → lo ≤ g j ∧ g j ≤ hi) := Lib.hid fun j hj => by
          rcases Nat.lt_or_ge j k with h | h
          · exact HK.out j h
          · rw [show j = k from by omega]; exact inR_true.1 hr
        go_wp2_with (go_at_call 92; refine (s_In _ _ _ _).mono ?_; rintro e w' ⟨rfl, rfl⟩)
        go_round
        case rel => exact ⟨k + 1, by omega, by go_num, HK2⟩
        case measure => simp [intOf]; omega
      · have hr := Bool.eq_false_iff.2 hr
        have hbf : b = false := by
          cases hbb : b with
          | false => rfl
          | true => rw [inR_false] at hr; have := (HB.out.1 hbb).2 k hlt; omega
        subst hbf
        go_wp2_with (go_at_call 92; refine (s_In _ _ _ _).mono ?_; rintro e w' ⟨rfl, rfl⟩)
        go_ret
        exact ⟨rfl, rfl⟩
    · by_cases hm : (n : Int) ≤ most
      · have hbt : b = true := HB.out.2 ⟨hm, fun i hi => HK.out i (by omega)⟩
        subst hbt
        go_wp2
        go_ret
        exact ⟨rfl, rfl⟩
      · have hbf : b = false := by
          cases hbb : b with
          | false => rfl
          | true => exact absurd (HB.out.1 hbb).1 hm
        subst hbf
        go_wp2
        go_ret
        exact ⟨rfl, rfl⟩

theorem s_SValid (Z : Tab) (b : Bool) (hb : b = true ↔ Z.SOk) (v : Value) (w : World) (hv : TabAt w Z v) :
    Calls Try.prog 145 #[v] w (Ret w (.bool b)) := by
  obtain ⟨A, c, rfl, hc, hm, hbig, hI⟩ := hv
  by_cases h1 : inR Z.first 0 100 = true
  case neg =>
    have hbf : b = false := by
      cases hbb : b with
      | false => rfl
      | true => exact absurd (inR_true.2 ⟨(hb.1 hbb).lo, (hb.1 hbb).hi⟩) h1
    subst hbf
    have h1 := Bool.eq_false_iff.2 h1
    clear hb
    go_enter Try.func145, Try.ntmps145
    go_wp2_with (first | (go_at_call 92; (with_reducible refine (s_In _ _ _ _).mono ?_); rintro e w' ⟨rfl, rfl⟩) | (go_at_call 96; (with_reducible refine (i_In _ _ _ _).mono ?_); rintro e w' ⟨rfl, rfl⟩) | (go_at_call 142; (with_reducible refine (s_Rate _ _).mono ?_); rintro e w' ⟨rfl, rfl⟩) | (go_at_call 104; (with_reducible refine (i_Rate _ _).mono ?_); rintro e w' ⟨rfl, rfl⟩) | (go_at_call 132; (with_reducible refine (i_Years _ _).mono ?_); rintro e w' ⟨rfl, rfl⟩) | (go_at_call 98; (with_reducible refine (s_Amount6 _ _).mono ?_); rintro e w' ⟨rfl, rfl⟩) | (go_at_call 108; (with_reducible refine (s_Sum7 _ _).mono ?_); rintro e w' ⟨rfl, rfl⟩) | ((first | with_reducible refine wp_region_in x (by kernel_rfl) (by kernel_rfl) ?_ | with_reducible refine wp_region_here (by kernel_rfl) (by kernel_rfl) ?_); (repeat (go_big_quiet_step ((first | (go_at_call 92; with_reducible exact Ret.same _ (s_In _ _ _ _)) | (go_at_call 96; with_reducible exact Ret.same _ (i_In _ _ _ _)) | (go_at_call 142; with_reducible exact Ret.same _ (s_Rate _ _)) | (go_at_call 104; with_reducible exact Ret.same _ (i_Rate _ _)) | (go_at_call 132; with_reducible exact Ret.same _ (i_Years _ _)) | (go_at_call 98; with_reducible exact Ret.same _ (s_Amount6 _ _)) | (go_at_call 108; with_reducible exact Ret.same _ (s_Sum7 _ _)))))); refine wpQuiet_nil ?_; intro w' hw'; obtain ⟨x, rfl⟩ := hw'))
    go_ret
    exact ⟨rfl, (by repeat' (first | (with_reducible exact Up.refl _) | (with_reducible assumption) | (with_reducible refine Up.alloc ?_ _) | (with_reducible refine Up.drew ?_) | (with_reducible refine Up.grow ?_ _) | (with_reducible refine Up.setCell ?_ (by (try simp); (try omega)) _)))⟩
  by_cases h2 : 1 ≤ Z.n
  case neg =>
    have hbf : b = false := by
      cases hbb : b with
      | false => rfl
      | true => exact absurd (hb.1 hbb).n1 h2
    subst hbf
    clear hb
    go_enter Try.func145, Try.ntmps145
    go_wp2_with (first | (go_at_call 92; (with_reducible refine (s_In _ _ _ _).mono ?_); rintro e w' ⟨rfl, rfl⟩) | (go_at_call 96; (with_reducible refine (i_In _ _ _ _).mono ?_); rintro e w' ⟨rfl, rfl⟩) | (go_at_call 142; (with_reducible refine (s_Rate _ _).mono ?_); rintro e w' ⟨rfl, rfl⟩) | (go_at_call 104; (with_reducible refine (i_Rate _ _).mono ?_); rintro e w' ⟨rfl, rfl⟩) | (go_at_call 132; (with_reducible refine (i_Years _ _).mono ?_); rintro e w' ⟨rfl, rfl⟩) | (go_at_call 98; (with_reducible refine (s_Amount6 _ _).mono ?_); rintro e w' ⟨rfl, rfl⟩) | (go_at_call 108; (with_reducible refine (s_Sum7 _ _).mono ?_); rintro e w' ⟨rfl, rfl⟩) | ((first | with_reducible refine wp_region_in x (by kernel_rfl) (by kernel_rfl) ?_ | with_reducible refine wp_region_here (by kernel_rfl) (by kernel_rfl) ?_); (repeat (go_big_quiet_step ((first | (go_at_call 92; with_reducible exact Ret.same _ (s_In _ _ _ _)) | (go_at_call 96; with_reducible exact Ret.same _ (i_In _ _ _ _)) | (go_at_call 142; with_reducible exact Ret.same _ (s_Rate _ _)) | (go_at_call 104; with_reducible exact Ret.same _ (i_Rate _ _)) | (go_at_call 132; with_reducible exact Ret.same _ (i_Years _ _)) | (go_at_call 98; with_reducible exact Ret.same _ (s_Amount6 _ _)) | (go_at_call 108; with_reducible exact Ret.same _ (s_Sum7 _ _)))))); refine wpQuiet_nil ?_; intro w' hw'; obtain ⟨x, rfl⟩ := hw'))
    go_ret
    exact ⟨rfl, (by repeat' (first | (with_reducible exact Up.refl _) | (with_reducible assumption) | (with_reducible refine Up.alloc ?_ _) | (with_reducible refine Up.drew ?_) | (with_reducible refine Up.grow ?_ _) | (with_reducible refine Up.setCell ?_ (by (try simp); (try omega)) _)))⟩
  have h1' := inR_true.1 h1
  have hb2 : b = true ↔ (Z.n : Int) ≤ 120 ∧ ∀ i, i < Z.n → 0 ≤ Z.f i ∧ Z.f i ≤ 52000 := by
    rw [hb]
    exact ⟨fun h => ⟨by have := h.n120; omega, h.all⟩, fun h => ⟨h1'.1, h1'.2, h2, by omega, h.2⟩⟩
  have HW := Lib.hid fun w h => s_Within A Z.n c Z.f 120 0 52000 hbig b hb2 w h
  clear hb hb2
  go_enter Try.func145, Try.ntmps145
  go_wp2_with (first | (go_at_call 156; (with_reducible refine (HW.out _ (hI.up (by repeat' (first | (with_reducible exact Up.refl _) | (with_reducible assumption) | (with_reducible refine Up.alloc ?_ _) | (with_reducible refine Up.drew ?_) | (with_reducible refine Up.grow ?_ _) | (with_reducible refine Up.setCell ?_ (by (try simp); (try omega)) _))))).mono ?_); rintro e w' ⟨rfl, rfl⟩) | (go_at_call 92; (with_reducible refine (s_In _ _ _ _).mono ?_); rintro e w' ⟨rfl, rfl⟩) | (go_at_call 96; (with_reducible refine (i_In _ _ _ _).mono ?_); rintro e w' ⟨rfl, rfl⟩) | (go_at_call 142; (with_reducible refine (s_Rate _ _).mono ?_); rintro e w' ⟨rfl, rfl⟩) | (go_at_call 104; (with_reducible refine (i_Rate _ _).mono ?_); rintro e w' ⟨rfl, rfl⟩) | (go_at_call 132; (with_reducible refine (i_Years _ _).mono ?_); rintro e w' ⟨rfl, rfl⟩) | (go_at_call 98; (with_reducible refine (s_Amount6 _ _).mono ?_); rintro e w' ⟨rfl, rfl⟩) | (go_at_call 108; (with_reducible refine (s_Sum7 _ _).mono ?_); rintro e w' ⟨rfl, rfl⟩) | ((first | with_reducible refine wp_region_in x (by kernel_rfl) (by kernel_rfl) ?_ | with_reducible refine wp_region_here (by kernel_rfl) (by kernel_rfl) ?_); (repeat (go_big_quiet_step ((first | (go_at_call 156; with_reducible exact Ret.same _ (HW.out _ (hI.up (by repeat' (first | (with_reducible exact Up.refl _) | (with_reducible assumption) | (with_reducible refine Up.alloc ?_ _) | (with_reducible refine Up.drew ?_) | (with_reducible refine Up.grow ?_ _) | (with_reducible refine Up.setCell ?_ (by (try simp); (try omega)) _)))))) | (go_at_call 92; with_reducible exact Ret.same _ (s_In _ _ _ _)) | (go_at_call 96; with_reducible exact Ret.same _ (i_In _ _ _ _)) | (go_at_call 142; with_reducible exact Ret.same _ (s_Rate _ _)) | (go_at_call 104; with_reducible exact Ret.same _ (i_Rate _ _)) | (go_at_call 132; with_reducible exact Ret.same _ (i_Years _ _)) | (go_at_call 98; with_reducible exact Ret.same _ (s_Amount6 _ _)) | (go_at_call 108; with_reducible exact Ret.same _ (s_Sum7 _ _)))))); refine wpQuiet_nil ?_; intro w' hw'; obtain ⟨x, rfl⟩ := hw'))
  go_ret
  exact ⟨rfl, (by repeat' (first | (with_reducible exact Up.refl _) | (with_reducible assumption) | (with_reducible refine Up.alloc ?_ _) | (with_reducible refine Up.drew ?_) | (with_reducible refine Up.grow ?_ _) | (with_reducible refine Up.setCell ?_ (by (try simp); (try omega)) _)))⟩
theorem wk_in {Z : Tab} {age : Int} (h : 0 ≤ age - Z.first) (h2 : age - Z.first < Z.n) : Z.wk age = Z.f (age - Z.first).toNat := by unfold Tab.wk; rw [if_pos ⟨h, h2⟩]
theorem wk_out {Z : Tab} {age : Int} (h : ¬ (0 ≤ age - Z.first ∧ age - Z.first < Z.n)) : Z.wk age = 0 := by unfold Tab.wk; rw [if_neg h]
theorem inR_wk {Z : Tab} (age : Int) : inR (age - Z.first) 0 ((Z.n : Int) - 1) = true ↔ 0 ≤ age - Z.first ∧ age - Z.first < Z.n := by rw [inR_true]; omega

theorem s_Weeks {Z : Tab} (hZ : Z.SOk) (age : Int) (ha : 0 ≤ age) (hb : age ≤ 1000) (v : Value) (w : World) (hv : TabAt w Z v) :
    Calls Try.prog 146 #[v, .int .i64 age] w (Ret w (.int .i64 (Z.wk age))) := by
  obtain ⟨A, c, rfl, hc, hm, hbig, hI⟩ := hv
  have q1 := hZ.lo; have q2 := hZ.hi; have q3 := hZ.n1; have q4 := hZ.n120
  by_cases hin : inR (age - Z.first) 0 ((Z.n : Int) - 1) = true
  · have hin' := (inR_wk age).1 hin
    rw [wk_in hin'.1 hin'.2]
    obtain ⟨b, off, rfl, hlb, hcell⟩ := hI (age - Z.first).toNat (by omega)
    have hin2 := hin'.2
    go_enter Try.func146, Try.ntmps146
    go_wp2_with (first | (go_at_call 92; (with_reducible refine (s_In _ _ _ _).mono ?_); rintro e w' ⟨rfl, rfl⟩) | (go_at_call 96; (with_reducible refine (i_In _ _ _ _).mono ?_); rintro e w' ⟨rfl, rfl⟩) | (go_at_call 142; (with_reducible refine (s_Rate _ _).mono ?_); rintro e w' ⟨rfl, rfl⟩) | (go_at_call 104; (with_reducible refine (i_Rate _ _).mono ?_); rintro e w' ⟨rfl, rfl⟩) | (go_at_call 132; (with_reducible refine (i_Years _ _).mono ?_); rintro e w' ⟨rfl, rfl⟩) | (go_at_call 98; (with_reducible refine (s_Amount6 _ _).mono ?_); rintro e w' ⟨rfl, rfl⟩) | (go_at_call 108; (with_reducible refine (s_Sum7 _ _).mono ?_); rintro e w' ⟨rfl, rfl⟩) | ((first | with_reducible refine wp_region_in x (by kernel_rfl) (by kernel_rfl) ?_ | with_reducible refine wp_region_here (by kernel_rfl) (by kernel_rfl) ?_); (repeat (go_big_quiet_step ((first | (go_at_call 92; with_reducible exact Ret.same _ (s_In _ _ _ _)) | (go_at_call 96; with_reducible exact Ret.same _ (i_In _ _ _ _)) | (go_at_call 142; with_reducible exact Ret.same _ (s_Rate _ _)) | (go_at_call 104; with_reducible exact Ret.same _ (i_Rate _ _)) | (go_at_call 132; with_reducible exact Ret.same _ (i_Years _ _)) | (go_at_call 98; with_reducible exact Ret.same _ (s_Amount6 _ _)) | (go_at_call 108; with_reducible exact Ret.same _ (s_Sum7 _ _)))))); refine wpQuiet_nil ?_; intro w' hw'; obtain ⟨x, rfl⟩ := hw'))
    go_ret
    exact ⟨rfl, (by repeat' (first | (with_reducible exact Up.refl _) | (with_reducible assumption) | (with_reducible refine Up.alloc ?_ _) | (with_reducible refine Up.drew ?_) | (with_reducible refine Up.grow ?_ _) | (with_reducible refine Up.setCell ?_ (by (try simp); (try omega)) _)))⟩
  · have hin0 : ¬ (0 ≤ age - Z.first ∧ age - Z.first < Z.n) := fun h => hin ((inR_wk age).2 h)
    have hin := Bool.eq_false_iff.2 hin
    rw [wk_out hin0]
    clear hin0
    go_enter Try.func146, Try.ntmps146
    go_wp2_with (first | (go_at_call 92; (with_reducible refine (s_In _ _ _ _).mono ?_); rintro e w' ⟨rfl, rfl⟩) | (go_at_call 96; (with_reducible refine (i_In _ _ _ _).mono ?_); rintro e w' ⟨rfl, rfl⟩) | (go_at_call 142; (with_reducible refine (s_Rate _ _).mono ?_); rintro e w' ⟨rfl, rfl⟩) | (go_at_call 104; (with_reducible refine (i_Rate _ _).mono ?_); rintro e w' ⟨rfl, rfl⟩) | (go_at_call 132; (with_reducible refine (i_Years _ _).mono ?_); rintro e w' ⟨rfl, rfl⟩) | (go_at_call 98; (with_reducible refine (s_Amount6 _ _).mono ?_); rintro e w' ⟨rfl, rfl⟩) | (go_at_call 108; (with_reducible refine (s_Sum7 _ _).mono ?_); rintro e w' ⟨rfl, rfl⟩) | ((first | with_reducible refine wp_region_in x (by kernel_rfl) (by kernel_rfl) ?_ | with_reducible refine wp_region_here (by kernel_rfl) (by kernel_rfl) ?_); (repeat (go_big_quiet_step ((first | (go_at_call 92; with_reducible exact Ret.same _ (s_In _ _ _ _)) | (go_at_call 96; with_reducible exact Ret.same _ (i_In _ _ _ _)) | (go_at_call 142; with_reducible exact Ret.same _ (s_Rate _ _)) | (go_at_call 104; with_reducible exact Ret.same _ (i_Rate _ _)) | (go_at_call 132; with_reducible exact Ret.same _ (i_Years _ _)) | (go_at_call 98; with_reducible exact Ret.same _ (s_Amount6 _ _)) | (go_at_call 108; with_reducible exact Ret.same _ (s_Sum7 _ _)))))); refine wpQuiet_nil ?_; intro w' hw'; obtain ⟨x, rfl⟩ := hw'))
    go_ret
    exact ⟨rfl, (by repeat' (first | (with_reducible exact Up.refl _) | (with_reducible assumption) | (with_reducible refine Up.alloc ?_ _) | (with_reducible refine Up.drew ?_) | (with_reducible refine Up.grow ?_ _) | (with_reducible refine Up.setCell ?_ (by (try simp); (try omega)) _)))⟩
end Go.Proofs.Ytegabpilmjicgaa
