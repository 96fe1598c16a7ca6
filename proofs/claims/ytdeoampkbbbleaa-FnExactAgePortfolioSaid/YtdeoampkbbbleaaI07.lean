/- Contracts of the program's words on assurances: isAssurance, benefits, checkAssurance. Condition: the slice reads as the table's numbers. -/
import Derived.Test.YtdeoampkbbbleaaChk
import Derived.Test.YtdeoampkbbbleaaS07b
namespace Go.Proofs.Ytdeoampkbbbleaa
open Go.RowKit Pu

/-- Whether the arguments are those of an assurance. -/
def asB (T : Tab) (r kind age n m : Int) : Bool := inR kind 0 3 && inR r 0 200 && inR age T.first 150 && inR m 1 100000000 && inR n 0 120 && decide (age + n ≤ 150) && ((n == 0) == (kind == 0))
theorem asB_iff {T : Tab} {r kind age n m : Int} : asB T r kind age n m = true ↔ (0 ≤ r ∧ r ≤ 200 ∧ T.first ≤ age ∧ age ≤ 150) ∧ ((inR m 1 100000000 && fits kind n) = true ∧ 0 ≤ n ∧ n ≤ 120 ∧ age + n ≤ 150) := by
  have e : ((n == 0) == (kind == 0)) = true ↔ (n = 0 ↔ kind = 0) := by rw [beq_iff_eq, Bool.eq_iff_iff, beq_iff_eq, beq_iff_eq]
  unfold asB
  simp only [Bool.and_eq_true, inR_true, decide_eq_true_eq, e, fits_iff]
  constructor
  · rintro ⟨⟨⟨⟨⟨⟨h1, h2⟩, h3⟩, h4⟩, h5⟩, h6⟩, h7⟩; exact ⟨⟨h2.1, h2.2, h3.1, h3.2⟩, ⟨h4, h1, h7.symm⟩, h5.1, h5.2, h6⟩
  · rintro ⟨⟨h1, h2, h3, h4⟩, ⟨h5, h6, h7⟩, h8, h9, h10⟩; exact ⟨⟨⟨⟨⟨⟨h6, h1, h2⟩, h3, h4⟩, h5⟩, h8, h9⟩, h10⟩, h7.symm⟩
theorem code7_as {T : Tab} (hT : T.Ok) (r kind age n m : Int) :
    (asB T r kind age n m = false → code7 T r kind age n (inR m 1 100000000) = 2) ∧ (asB T r kind age n m = true → T.D r (age - T.first).toNat = 0 → code7 T r kind age n (inR m 1 100000000) = 5) ∧
    (asB T r kind age n m = true → ¬ T.D r (age - T.first).toNat = 0 → code7 T r kind age n (inR m 1 100000000) = 0) := by
  unfold code7 code6
  refine ⟨fun h => ?_, fun h hd => ?_, fun h hd => ?_⟩
  · by_cases h5 : 0 ≤ r ∧ r ≤ 200 ∧ T.first ≤ age ∧ age ≤ 150
    · rw [if_pos (code5_ok hT h5), if_neg]
      intro hh
      have : asB T r kind age n m = true := asB_iff.2 ⟨h5, hh⟩
      rw [this] at h; cases h
    · rw [code5_range hT h5]; rfl
  · obtain ⟨h1, h2⟩ := asB_iff.1 h
    rw [if_pos (code5_ok hT h1), if_pos h2, if_pos hd]
  · obtain ⟨h1, h2⟩ := asB_iff.1 h
    rw [if_pos (code5_ok hT h1), if_pos h2, if_neg hd]
theorem code7_bad {T : Tab} (hT : ¬ T.Ok) (r kind age n : Int) (b : Bool) : code7 T r kind age n b = 1 := by unfold code7 code6; rw [code5_bad hT]; rfl

set_option maxRecDepth 100000 in
theorem i_IsA (T : Tab) (h0 : 0 ≤ T.first) (r kind age n m : Int) (v : Value) (w : World) (hv : TabAt w T v) :
    Calls Try.prog 220 #[v, .int .i64 r, .int .i64 kind, .int .i64 age, .int .i64 n, .int .i64 m] w (Ret w (.bool (asB T r kind age n m))) := by
  obtain ⟨A, c, rfl, hc, hm, _, hI⟩ := hv
  unfold asB
  by_cases h1 : inR kind 0 3 = true
  case neg =>
    have h1 := Bool.eq_false_iff.2 h1
    simp only [h1, Bool.false_and]
    go_enter Try.func220, Try.ntmps220
    go_wp2_with (first | (go_at_call 142; (with_reducible refine (s_In _ _ _ _).mono ?_); rintro e w' ⟨rfl, rfl⟩) | (go_at_call 186; (with_reducible refine (i_In _ _ _ _).mono ?_); rintro e w' ⟨rfl, rfl⟩) | (go_at_call 222; (with_reducible refine (s_Rate _ _).mono ?_); rintro e w' ⟨rfl, rfl⟩) | (go_at_call 165; (with_reducible refine (i_Rate _ _).mono ?_); rintro e w' ⟨rfl, rfl⟩) | (go_at_call 262; (with_reducible refine (i_Years _ _).mono ?_); rintro e w' ⟨rfl, rfl⟩) | (go_at_call 227; (with_reducible refine (s_Amount6 _ _).mono ?_); rintro e w' ⟨rfl, rfl⟩) | (go_at_call 236; (with_reducible refine (s_Sum7 _ _).mono ?_); rintro e w' ⟨rfl, rfl⟩) | ((first | with_reducible refine wp_region_in x (by kernel_rfl) (by kernel_rfl) ?_ | with_reducible refine wp_region_here (by kernel_rfl) (by kernel_rfl) ?_); (repeat (go_big_quiet_step ((first | (go_at_call 142; with_reducible exact Ret.same _ (s_In _ _ _ _)) | (go_at_call 186; with_reducible exact Ret.same _ (i_In _ _ _ _)) | (go_at_call 222; with_reducible exact Ret.same _ (s_Rate _ _)) | (go_at_call 165; with_reducible exact Ret.same _ (i_Rate _ _)) | (go_at_call 262; with_reducible exact Ret.same _ (i_Years _ _)) | (go_at_call 227; with_reducible exact Ret.same _ (s_Amount6 _ _)) | (go_at_call 236; with_reducible exact Ret.same _ (s_Sum7 _ _)))))); refine wpQuiet_nil ?_; intro w' hw'; obtain ⟨x, rfl⟩ := hw'))
    go_ret
    exact ⟨rfl, (by repeat' (first | (with_reducible exact Up.refl _) | (with_reducible assumption) | (with_reducible refine Up.alloc ?_ _) | (with_reducible refine Up.drew ?_) | (with_reducible refine Up.grow ?_ _) | (with_reducible refine Up.setCell ?_ (by (try simp); (try omega)) _)))⟩
  by_cases h2 : inR r 0 200 = true
  case neg =>
    have h2 := Bool.eq_false_iff.2 h2
    simp only [h2, Bool.false_and, Bool.and_false]
    go_enter Try.func220, Try.ntmps220
    go_wp2_with (first | (go_at_call 142; (with_reducible refine (s_In _ _ _ _).mono ?_); rintro e w' ⟨rfl, rfl⟩) | (go_at_call 186; (with_reducible refine (i_In _ _ _ _).mono ?_); rintro e w' ⟨rfl, rfl⟩) | (go_at_call 222; (with_reducible refine (s_Rate _ _).mono ?_); rintro e w' ⟨rfl, rfl⟩) | (go_at_call 165; (with_reducible refine (i_Rate _ _).mono ?_); rintro e w' ⟨rfl, rfl⟩) | (go_at_call 262; (with_reducible refine (i_Years _ _).mono ?_); rintro e w' ⟨rfl, rfl⟩) | (go_at_call 227; (with_reducible refine (s_Amount6 _ _).mono ?_); rintro e w' ⟨rfl, rfl⟩) | (go_at_call 236; (with_reducible refine (s_Sum7 _ _).mono ?_); rintro e w' ⟨rfl, rfl⟩) | ((first | with_reducible refine wp_region_in x (by kernel_rfl) (by kernel_rfl) ?_ | with_reducible refine wp_region_here (by kernel_rfl) (by kernel_rfl) ?_); (repeat (go_big_quiet_step ((first | (go_at_call 142; with_reducible exact Ret.same _ (s_In _ _ _ _)) | (go_at_call 186; with_reducible exact Ret.same _ (i_In _ _ _ _)) | (go_at_call 222; with_reducible exact Ret.same _ (s_Rate _ _)) | (go_at_call 165; with_reducible exact Ret.same _ (i_Rate _ _)) | (go_at_call 262; with_reducible exact Ret.same _ (i_Years _ _)) | (go_at_call 227; with_reducible exact Ret.same _ (s_Amount6 _ _)) | (go_at_call 236; with_reducible exact Ret.same _ (s_Sum7 _ _)))))); refine wpQuiet_nil ?_; intro w' hw'; obtain ⟨x, rfl⟩ := hw'))
    go_ret
    exact ⟨rfl, (by repeat' (first | (with_reducible exact Up.refl _) | (with_reducible assumption) | (with_reducible refine Up.alloc ?_ _) | (with_reducible refine Up.drew ?_) | (with_reducible refine Up.grow ?_ _) | (with_reducible refine Up.setCell ?_ (by (try simp); (try omega)) _)))⟩
  by_cases h3 : inR age T.first 150 = true
  case neg =>
    have h3 := Bool.eq_false_iff.2 h3
    simp only [h3, Bool.false_and, Bool.and_false]
    go_enter Try.func220, Try.ntmps220
    go_wp2_with (first | (go_at_call 142; (with_reducible refine (s_In _ _ _ _).mono ?_); rintro e w' ⟨rfl, rfl⟩) | (go_at_call 186; (with_reducible refine (i_In _ _ _ _).mono ?_); rintro e w' ⟨rfl, rfl⟩) | (go_at_call 222; (with_reducible refine (s_Rate _ _).mono ?_); rintro e w' ⟨rfl, rfl⟩) | (go_at_call 165; (with_reducible refine (i_Rate _ _).mono ?_); rintro e w' ⟨rfl, rfl⟩) | (go_at_call 262; (with_reducible refine (i_Years _ _).mono ?_); rintro e w' ⟨rfl, rfl⟩) | (go_at_call 227; (with_reducible refine (s_Amount6 _ _).mono ?_); rintro e w' ⟨rfl, rfl⟩) | (go_at_call 236; (with_reducible refine (s_Sum7 _ _).mono ?_); rintro e w' ⟨rfl, rfl⟩) | ((first | with_reducible refine wp_region_in x (by kernel_rfl) (by kernel_rfl) ?_ | with_reducible refine wp_region_here (by kernel_rfl) (by kernel_rfl) ?_); (repeat (go_big_quiet_step ((first | (go_at_call 142; with_reducible exact Ret.same _ (s_In _ _ _ _)) | (go_at_call 186; with_reducible exact Ret.same _ (i_In _ _ _ _)) | (go_at_call 222; with_reducible exact Ret.same _ (s_Rate _ _)) | (go_at_call 165; with_reducible exact Ret.same _ (i_Rate _ _)) | (go_at_call 262; with_reducible exact Ret.same _ (i_Years _ _)) | (go_at_call 227; with_reducible exact Ret.same _ (s_Amount6 _ _)) | (go_at_call 236; with_reducible exact Ret.same _ (s_Sum7 _ _)))))); refine wpQuiet_nil ?_; intro w' hw'; obtain ⟨x, rfl⟩ := hw'))
    go_ret
    exact ⟨rfl, (by repeat' (first | (with_reducible exact Up.refl _) | (with_reducible assumption) | (with_reducible refine Up.alloc ?_ _) | (with_reducible refine Up.drew ?_) | (with_reducible refine Up.grow ?_ _) | (with_reducible refine Up.setCell ?_ (by (try simp); (try omega)) _)))⟩
  by_cases h4 : inR m 1 100000000 = true
  case neg =>
    have h4 := Bool.eq_false_iff.2 h4
    simp only [h4, Bool.false_and, Bool.and_false]
    go_enter Try.func220, Try.ntmps220
    go_wp2_with (first | (go_at_call 142; (with_reducible refine (s_In _ _ _ _).mono ?_); rintro e w' ⟨rfl, rfl⟩) | (go_at_call 186; (with_reducible refine (i_In _ _ _ _).mono ?_); rintro e w' ⟨rfl, rfl⟩) | (go_at_call 222; (with_reducible refine (s_Rate _ _).mono ?_); rintro e w' ⟨rfl, rfl⟩) | (go_at_call 165; (with_reducible refine (i_Rate _ _).mono ?_); rintro e w' ⟨rfl, rfl⟩) | (go_at_call 262; (with_reducible refine (i_Years _ _).mono ?_); rintro e w' ⟨rfl, rfl⟩) | (go_at_call 227; (with_reducible refine (s_Amount6 _ _).mono ?_); rintro e w' ⟨rfl, rfl⟩) | (go_at_call 236; (with_reducible refine (s_Sum7 _ _).mono ?_); rintro e w' ⟨rfl, rfl⟩) | ((first | with_reducible refine wp_region_in x (by kernel_rfl) (by kernel_rfl) ?_ | with_reducible refine wp_region_here (by kernel_rfl) (by kernel_rfl) ?_); (repeat (go_big_quiet_step ((first | (go_at_call 142; with_reducible exact Ret.same _ (s_In _ _ _ _)) | (go_at_call 186; with_reducible exact Ret.same _ (i_In _ _ _ _)) | (go_at_call 222; with_reducible exact Ret.same _ (s_Rate _ _)) | (go_at_call 165; with_reducible exact Ret.same _ (i_Rate _ _)) | (go_at_call 262; with_reducible exact Ret.same _ (i_Years _ _)) | (go_at_call 227; with_reducible exact Ret.same _ (s_Amount6 _ _)) | (go_at_call 236; with_reducible exact Ret.same _ (s_Sum7 _ _)))))); refine wpQuiet_nil ?_; intro w' hw'; obtain ⟨x, rfl⟩ := hw'))
    go_ret
    exact ⟨rfl, (by repeat' (first | (with_reducible exact Up.refl _) | (with_reducible assumption) | (with_reducible refine Up.alloc ?_ _) | (with_reducible refine Up.drew ?_) | (with_reducible refine Up.grow ?_ _) | (with_reducible refine Up.setCell ?_ (by (try simp); (try omega)) _)))⟩
  by_cases h5 : inR n 0 120 = true
  case neg =>
    have h5 := Bool.eq_false_iff.2 h5
    simp only [h5, Bool.false_and, Bool.and_false]
    go_enter Try.func220, Try.ntmps220
    go_wp2_with (first | (go_at_call 142; (with_reducible refine (s_In _ _ _ _).mono ?_); rintro e w' ⟨rfl, rfl⟩) | (go_at_call 186; (with_reducible refine (i_In _ _ _ _).mono ?_); rintro e w' ⟨rfl, rfl⟩) | (go_at_call 222; (with_reducible refine (s_Rate _ _).mono ?_); rintro e w' ⟨rfl, rfl⟩) | (go_at_call 165; (with_reducible refine (i_Rate _ _).mono ?_); rintro e w' ⟨rfl, rfl⟩) | (go_at_call 262; (with_reducible refine (i_Years _ _).mono ?_); rintro e w' ⟨rfl, rfl⟩) | (go_at_call 227; (with_reducible refine (s_Amount6 _ _).mono ?_); rintro e w' ⟨rfl, rfl⟩) | (go_at_call 236; (with_reducible refine (s_Sum7 _ _).mono ?_); rintro e w' ⟨rfl, rfl⟩) | ((first | with_reducible refine wp_region_in x (by kernel_rfl) (by kernel_rfl) ?_ | with_reducible refine wp_region_here (by kernel_rfl) (by kernel_rfl) ?_); (repeat (go_big_quiet_step ((first | (go_at_call 142; with_reducible exact Ret.same _ (s_In _ _ _ _)) | (go_at_call 186; with_reducible exact Ret.same _ (i_In _ _ _ _)) | (go_at_call 222; with_reducible exact Ret.same _ (s_Rate _ _)) | (go_at_call 165; with_reducible exact Ret.same _ (i_Rate _ _)) | (go_at_call 262; with_reducible exact Ret.same _ (i_Years _ _)) | (go_at_call 227; with_reducible exact Ret.same _ (s_Amount6 _ _)) | (go_at_call 236; with_reducible exact Ret.same _ (s_Sum7 _ _)))))); refine wpQuiet_nil ?_; intro w' hw'; obtain ⟨x, rfl⟩ := hw'))
    go_ret
    exact ⟨rfl, (by repeat' (first | (with_reducible exact Up.refl _) | (with_reducible assumption) | (with_reducible refine Up.alloc ?_ _) | (with_reducible refine Up.drew ?_) | (with_reducible refine Up.grow ?_ _) | (with_reducible refine Up.setCell ?_ (by (try simp); (try omega)) _)))⟩
  have b1 := inR_true.1 h5
  have b2 := inR_true.1 h3
  simp only [h1, h2, h3, h4, h5, Bool.true_and]
  by_cases h7 : age + n ≤ 150
  · simp only [h7, decide_true, Bool.true_and]
    go_enter Try.func220, Try.ntmps220
    go_wp2_with (first | (go_at_call 142; (with_reducible refine (s_In _ _ _ _).mono ?_); rintro e w' ⟨rfl, rfl⟩) | (go_at_call 186; (with_reducible refine (i_In _ _ _ _).mono ?_); rintro e w' ⟨rfl, rfl⟩) | (go_at_call 222; (with_reducible refine (s_Rate _ _).mono ?_); rintro e w' ⟨rfl, rfl⟩) | (go_at_call 165; (with_reducible refine (i_Rate _ _).mono ?_); rintro e w' ⟨rfl, rfl⟩) | (go_at_call 262; (with_reducible refine (i_Years _ _).mono ?_); rintro e w' ⟨rfl, rfl⟩) | (go_at_call 227; (with_reducible refine (s_Amount6 _ _).mono ?_); rintro e w' ⟨rfl, rfl⟩) | (go_at_call 236; (with_reducible refine (s_Sum7 _ _).mono ?_); rintro e w' ⟨rfl, rfl⟩) | ((first | with_reducible refine wp_region_in x (by kernel_rfl) (by kernel_rfl) ?_ | with_reducible refine wp_region_here (by kernel_rfl) (by kernel_rfl) ?_); (repeat (go_big_quiet_step ((first | (go_at_call 142; with_reducible exact Ret.same _ (s_In _ _ _ _)) | (go_at_call 186; with_reducible exact Ret.same _ (i_In _ _ _ _)) | (go_at_call 222; with_reducible exact Ret.same _ (s_Rate _ _)) | (go_at_call 165; with_reducible exact Ret.same _ (i_Rate _ _)) | (go_at_call 262; with_reducible exact Ret.same _ (i_Years _ _)) | (go_at_call 227; with_reducible exact Ret.same _ (s_Amount6 _ _)) | (go_at_call 236; with_reducible exact Ret.same _ (s_Sum7 _ _)))))); refine wpQuiet_nil ?_; intro w' hw'; obtain ⟨x, rfl⟩ := hw'))
    go_ret
    exact ⟨rfl, (by repeat' (first | (with_reducible exact Up.refl _) | (with_reducible assumption) | (with_reducible refine Up.alloc ?_ _) | (with_reducible refine Up.drew ?_) | (with_reducible refine Up.grow ?_ _) | (with_reducible refine Up.setCell ?_ (by (try simp); (try omega)) _)))⟩
  · simp only [h7, decide_false, Bool.false_and]
    have h7 : 150 < age + n := by omega
    go_enter Try.func220, Try.ntmps220
    go_wp2_with (first | (go_at_call 142; (with_reducible refine (s_In _ _ _ _).mono ?_); rintro e w' ⟨rfl, rfl⟩) | (go_at_call 186; (with_reducible refine (i_In _ _ _ _).mono ?_); rintro e w' ⟨rfl, rfl⟩) | (go_at_call 222; (with_reducible refine (s_Rate _ _).mono ?_); rintro e w' ⟨rfl, rfl⟩) | (go_at_call 165; (with_reducible refine (i_Rate _ _).mono ?_); rintro e w' ⟨rfl, rfl⟩) | (go_at_call 262; (with_reducible refine (i_Years _ _).mono ?_); rintro e w' ⟨rfl, rfl⟩) | (go_at_call 227; (with_reducible refine (s_Amount6 _ _).mono ?_); rintro e w' ⟨rfl, rfl⟩) | (go_at_call 236; (with_reducible refine (s_Sum7 _ _).mono ?_); rintro e w' ⟨rfl, rfl⟩) | ((first | with_reducible refine wp_region_in x (by kernel_rfl) (by kernel_rfl) ?_ | with_reducible refine wp_region_here (by kernel_rfl) (by kernel_rfl) ?_); (repeat (go_big_quiet_step ((first | (go_at_call 142; with_reducible exact Ret.same _ (s_In _ _ _ _)) | (go_at_call 186; with_reducible exact Ret.same _ (i_In _ _ _ _)) | (go_at_call 222; with_reducible exact Ret.same _ (s_Rate _ _)) | (go_at_call 165; with_reducible exact Ret.same _ (i_Rate _ _)) | (go_at_call 262; with_reducible exact Ret.same _ (i_Years _ _)) | (go_at_call 227; with_reducible exact Ret.same _ (s_Amount6 _ _)) | (go_at_call 236; with_reducible exact Ret.same _ (s_Sum7 _ _)))))); refine wpQuiet_nil ?_; intro w' hw'; obtain ⟨x, rfl⟩ := hw'))
    go_ret
    exact ⟨rfl, (by repeat' (first | (with_reducible exact Up.refl _) | (with_reducible assumption) | (with_reducible refine Up.alloc ?_ _) | (with_reducible refine Up.drew ?_) | (with_reducible refine Up.grow ?_ _) | (with_reducible refine Up.setCell ?_ (by (try simp); (try omega)) _)))⟩

set_option maxRecDepth 100000 in
theorem i_Ben {T : Tab} (hT : T.Ok) {r : Int} (h0 : 0 ≤ r) {kind : Int} (hk1 : 0 ≤ kind) (hk2 : kind ≤ 3) (k m : Nat) (w : World) :
    Calls Try.prog 263 #[.int .i64 kind, colV T r k, colV T r (k + m)] w (Ret w (.tuple #[.int .i64 (T.top r kind k m), .int .i64 (T.base r kind k m)])) := by
  have b1 := hT.M_max h0 k
  have b2 := (hT.M_max h0 (k + m)).1
  have b3 := hT.M_mono h0 k m
  have b4 := hT.D_bd h0 (k + m)
  have c1 := hT.N_max h0 k
  have c2 := (hT.N_max h0 (k + m)).1
  have c3 := hT.N_mono h0 k m
  unfold colV
  have hkk : kind = 0 ∨ kind = 1 ∨ kind = 2 ∨ kind = 3 := by omega
  rcases hkk with rfl | rfl | rfl | rfl
  · rw [show T.top r 0 k m = T.M r k from rfl, show T.base r 0 k m = T.N r k from rfl]
    go_enter Try.func263, Try.ntmps263
    go_wp2_with ((first | with_reducible refine wp_region_in x (by kernel_rfl) (by kernel_rfl) ?_ | with_reducible refine wp_region_here (by kernel_rfl) (by kernel_rfl) ?_); (repeat (go_big_quiet_step ((fail)))); refine wpQuiet_nil ?_; intro w' hw'; obtain ⟨x, rfl⟩ := hw')
    go_ret2
    exact ⟨rfl, (by repeat' (first | (with_reducible exact Up.refl _) | (with_reducible assumption) | (with_reducible refine Up.alloc ?_ _) | (with_reducible refine Up.drew ?_) | (with_reducible refine Up.grow ?_ _) | (with_reducible refine Up.setCell ?_ (by (try simp); (try omega)) _)))⟩
  all_goals
    first | rw [show T.top r 1 k m = T.M r k - T.M r (k + m) from rfl, show T.base r 1 k m = T.N r k - T.N r (k + m) from rfl] | rw [show T.top r 2 k m = T.M r k - T.M r (k + m) + T.D r (k + m) from rfl, show T.base r 2 k m = T.N r k - T.N r (k + m) from rfl] | rw [show T.top r 3 k m = T.D r (k + m) from rfl, show T.base r 3 k m = T.N r k - T.N r (k + m) from rfl]
    generalize T.M r k = M at *
    generalize T.M r (k + m) = M2 at *
    generalize T.N r k = N at *
    generalize T.N r (k + m) = N2 at *
    generalize T.D r (k + m) = D2 at *
    have i1 : IntKind.i64.wrap (M - M2) = M - M2 := IntWalk.i64_in _ (by omega)
    have i2 : IntKind.i64.wrap (N - N2) = N - N2 := IntWalk.i64_in _ (by omega)
    have i3 : IntKind.i64.wrap (M - M2 + D2) = M - M2 + D2 := IntWalk.i64_in _ (by omega)
    go_enter Try.func263, Try.ntmps263
    go_wp2_with ((first | with_reducible refine wp_region_in x (by kernel_rfl) (by kernel_rfl) ?_ | with_reducible refine wp_region_here (by kernel_rfl) (by kernel_rfl) ?_); (repeat (go_big_quiet_step ((fail)))); refine wpQuiet_nil ?_; intro w' hw'; obtain ⟨x, rfl⟩ := hw')
    go_ret2
    exact ⟨rfl, (by repeat' (first | (with_reducible exact Up.refl _) | (with_reducible assumption) | (with_reducible refine Up.alloc ?_ _) | (with_reducible refine Up.drew ?_) | (with_reducible refine Up.grow ?_ _) | (with_reducible refine Up.setCell ?_ (by (try simp); (try omega)) _)))⟩

def pp0 : Value := .agg #[.int .i64 0, .int .i64 0, .int .i64 0]
def ppV (T : Tab) (r kind : Int) (k m : Nat) : Value := .agg #[.int .i64 (T.top r kind k m), .int .i64 (T.D r k), .int .i64 (T.base r kind k m)]
/-- What an assurance is priced by, and the code. -/
def RetPP (w : World) (T : Tab) (r kind age n code : Int) : Ending → World → Prop := Ret w (.tuple #[if code = 0 then ppV T r kind (ix T age) n.toNat else pp0, .int .i64 code])
theorem RetPP_bad {w : World} {T : Tab} {r kind age n code : Int} (h : ¬ code = 0) : RetPP w T r kind age n code = Ret w (.tuple #[pp0, .int .i64 code]) := by unfold RetPP; rw [if_neg h]
theorem RetPP_ok {w : World} {T : Tab} {r kind age n : Int} : RetPP w T r kind age n 0 = Ret w (.tuple #[ppV T r kind (ix T age) n.toNat, .int .i64 0]) := rfl

set_option maxRecDepth 100000 in
theorem i_ChkPBad1 (T : Tab) (r kind age n m : Int) (v : Value) (w : World) (hv : TabAt w T v) (hT : ¬ T.Ok) :
    Calls Try.prog 223 #[v, .int .i64 r, .int .i64 kind, .int .i64 age, .int .i64 n, .int .i64 m] w (Ret w (.tuple #[pp0, .int .i64 1])) := by
  have hv' := hv
  obtain ⟨A, c, rfl, hc, hm, _, hI⟩ := hv
  have hb := (Tab.okB_false T).2 hT
  go_enter Try.func223, Try.ntmps223
  go_wp2_with (first | (go_at_call 74; (with_reducible refine (i_Valid T false hb _ _ (hv'.up (by repeat' (first | (with_reducible exact Up.refl _) | (with_reducible assumption) | (with_reducible refine Up.alloc ?_ _) | (with_reducible refine Up.drew ?_) | (with_reducible refine Up.grow ?_ _) | (with_reducible refine Up.setCell ?_ (by (try simp); (try omega)) _))))).mono ?_); rintro e w' ⟨rfl, hb⟩; first | (obtain ⟨x, rfl⟩ := Grow.on x hb) | (obtain ⟨x, rfl⟩ := Grow.mk' hb)) | (go_at_call 142; (with_reducible refine (s_In _ _ _ _).mono ?_); rintro e w' ⟨rfl, rfl⟩) | (go_at_call 186; (with_reducible refine (i_In _ _ _ _).mono ?_); rintro e w' ⟨rfl, rfl⟩) | (go_at_call 222; (with_reducible refine (s_Rate _ _).mono ?_); rintro e w' ⟨rfl, rfl⟩) | (go_at_call 165; (with_reducible refine (i_Rate _ _).mono ?_); rintro e w' ⟨rfl, rfl⟩) | (go_at_call 262; (with_reducible refine (i_Years _ _).mono ?_); rintro e w' ⟨rfl, rfl⟩) | (go_at_call 227; (with_reducible refine (s_Amount6 _ _).mono ?_); rintro e w' ⟨rfl, rfl⟩) | (go_at_call 236; (with_reducible refine (s_Sum7 _ _).mono ?_); rintro e w' ⟨rfl, rfl⟩) | ((first | with_reducible refine wp_region_in x (by kernel_rfl) (by kernel_rfl) ?_ | with_reducible refine wp_region_here (by kernel_rfl) (by kernel_rfl) ?_); (repeat (go_big_quiet_step ((first | (go_at_call 74; with_reducible exact Ret.grow _ (i_Valid T false hb _ _ (hv'.up (by repeat' (first | (with_reducible exact Up.refl _) | (with_reducible assumption) | (with_reducible refine Up.alloc ?_ _) | (with_reducible refine Up.drew ?_) | (with_reducible refine Up.grow ?_ _) | (with_reducible refine Up.setCell ?_ (by (try simp); (try omega)) _)))))) | (go_at_call 142; with_reducible exact Ret.same _ (s_In _ _ _ _)) | (go_at_call 186; with_reducible exact Ret.same _ (i_In _ _ _ _)) | (go_at_call 222; with_reducible exact Ret.same _ (s_Rate _ _)) | (go_at_call 165; with_reducible exact Ret.same _ (i_Rate _ _)) | (go_at_call 262; with_reducible exact Ret.same _ (i_Years _ _)) | (go_at_call 227; with_reducible exact Ret.same _ (s_Amount6 _ _)) | (go_at_call 236; with_reducible exact Ret.same _ (s_Sum7 _ _)))))); refine wpQuiet_nil ?_; intro w' hw'; obtain ⟨x, rfl⟩ := hw'))
  refine bodyPost_ret (v := .tuple #[pp0, .int .i64 1]) (by simp [results, Try.results223, go_sem, pp0]) rfl ?_
  exact ⟨rfl, (by repeat' (first | (with_reducible exact Up.refl _) | (with_reducible assumption) | (with_reducible refine Up.alloc ?_ _) | (with_reducible refine Up.drew ?_) | (with_reducible refine Up.grow ?_ _) | (with_reducible refine Up.setCell ?_ (by (try simp); (try omega)) _)))⟩
set_option maxRecDepth 100000 in
theorem i_ChkPBad2 (T : Tab) (r kind age n m : Int) (v : Value) (w : World) (hv : TabAt w T v) (hT : T.Ok) (has : asB T r kind age n m = false) :
    Calls Try.prog 223 #[v, .int .i64 r, .int .i64 kind, .int .i64 age, .int .i64 n, .int .i64 m] w (Ret w (.tuple #[pp0, .int .i64 2])) := by
  have hv' := hv
  obtain ⟨A, c, rfl, hc, hm, _, hI⟩ := hv
  have hb := (Tab.okB_iff T).2 hT
  have HAS : ∀ v w, TabAt w T v → Calls Try.prog 220 #[v, .int .i64 r, .int .i64 kind, .int .i64 age, .int .i64 n, .int .i64 m] w (Ret w (.bool false)) := fun v w h => by have := i_IsA T hT.lo r kind age n m v w h; rwa [has] at this
  replace HAS := Lib.hid HAS
  clear has
  go_enter Try.func223, Try.ntmps223
  go_wp2_with (first | (go_at_call 74; (with_reducible refine (i_Valid T true hb _ _ (hv'.up (by repeat' (first | (with_reducible exact Up.refl _) | (with_reducible assumption) | (with_reducible refine Up.alloc ?_ _) | (with_reducible refine Up.drew ?_) | (with_reducible refine Up.grow ?_ _) | (with_reducible refine Up.setCell ?_ (by (try simp); (try omega)) _))))).mono ?_); rintro e w' ⟨rfl, hb⟩; first | (obtain ⟨x, rfl⟩ := Grow.on x hb) | (obtain ⟨x, rfl⟩ := Grow.mk' hb)) | (go_at_call 220; (with_reducible refine (HAS.out _ _ (hv'.up (by repeat' (first | (with_reducible exact Up.refl _) | (with_reducible assumption) | (with_reducible refine Up.alloc ?_ _) | (with_reducible refine Up.drew ?_) | (with_reducible refine Up.grow ?_ _) | (with_reducible refine Up.setCell ?_ (by (try simp); (try omega)) _))))).mono ?_); rintro e w' ⟨rfl, hb⟩; first | (obtain ⟨x, rfl⟩ := Grow.on x hb) | (obtain ⟨x, rfl⟩ := Grow.mk' hb)) | (go_at_call 142; (with_reducible refine (s_In _ _ _ _).mono ?_); rintro e w' ⟨rfl, rfl⟩) | (go_at_call 186; (with_reducible refine (i_In _ _ _ _).mono ?_); rintro e w' ⟨rfl, rfl⟩) | (go_at_call 222; (with_reducible refine (s_Rate _ _).mono ?_); rintro e w' ⟨rfl, rfl⟩) | (go_at_call 165; (with_reducible refine (i_Rate _ _).mono ?_); rintro e w' ⟨rfl, rfl⟩) | (go_at_call 262; (with_reducible refine (i_Years _ _).mono ?_); rintro e w' ⟨rfl, rfl⟩) | (go_at_call 227; (with_reducible refine (s_Amount6 _ _).mono ?_); rintro e w' ⟨rfl, rfl⟩) | (go_at_call 236; (with_reducible refine (s_Sum7 _ _).mono ?_); rintro e w' ⟨rfl, rfl⟩) | ((first | with_reducible refine wp_region_in x (by kernel_rfl) (by kernel_rfl) ?_ | with_reducible refine wp_region_here (by kernel_rfl) (by kernel_rfl) ?_); (repeat (go_big_quiet_step ((first | (go_at_call 74; with_reducible exact Ret.grow _ (i_Valid T true hb _ _ (hv'.up (by repeat' (first | (with_reducible exact Up.refl _) | (with_reducible assumption) | (with_reducible refine Up.alloc ?_ _) | (with_reducible refine Up.drew ?_) | (with_reducible refine Up.grow ?_ _) | (with_reducible refine Up.setCell ?_ (by (try simp); (try omega)) _)))))) | (go_at_call 220; with_reducible exact Ret.grow _ (HAS.out _ _ (hv'.up (by repeat' (first | (with_reducible exact Up.refl _) | (with_reducible assumption) | (with_reducible refine Up.alloc ?_ _) | (with_reducible refine Up.drew ?_) | (with_reducible refine Up.grow ?_ _) | (with_reducible refine Up.setCell ?_ (by (try simp); (try omega)) _)))))) | (go_at_call 142; with_reducible exact Ret.same _ (s_In _ _ _ _)) | (go_at_call 186; with_reducible exact Ret.same _ (i_In _ _ _ _)) | (go_at_call 222; with_reducible exact Ret.same _ (s_Rate _ _)) | (go_at_call 165; with_reducible exact Ret.same _ (i_Rate _ _)) | (go_at_call 262; with_reducible exact Ret.same _ (i_Years _ _)) | (go_at_call 227; with_reducible exact Ret.same _ (s_Amount6 _ _)) | (go_at_call 236; with_reducible exact Ret.same _ (s_Sum7 _ _)))))); refine wpQuiet_nil ?_; intro w' hw'; obtain ⟨x, rfl⟩ := hw'))
  refine bodyPost_ret (v := .tuple #[pp0, .int .i64 2]) (by simp [results, Try.results223, go_sem, pp0]) rfl ?_
  exact ⟨rfl, (by repeat' (first | (with_reducible exact Up.refl _) | (with_reducible assumption) | (with_reducible refine Up.alloc ?_ _) | (with_reducible refine Up.drew ?_) | (with_reducible refine Up.grow ?_ _) | (with_reducible refine Up.setCell ?_ (by (try simp); (try omega)) _)))⟩

set_option maxRecDepth 100000 in
set_option maxHeartbeats 4000000 in
theorem i_ChkPGoD (T : Tab) (r kind m : Int) (k n : Nat) (v : Value) (w : World) (hv : TabAt w T v) (hT : T.Ok) (hr' : 0 ≤ r ∧ r ≤ 200) (hk1 : 0 ≤ kind) (hk2 : kind ≤ 3) (has : asB T r kind (T.first + k) n m = true) (hl : T.first + k + n ≤ 150) (hd : T.D r k = 0) :
    Calls Try.prog 223 #[v, .int .i64 r, .int .i64 kind, .int .i64 (T.first + k), .int .i64 n, .int .i64 m] w (Ret w (.tuple #[pp0, .int .i64 5])) := by
  have hv' := hv
  obtain ⟨A, c, rfl, hc, hm, _, hI⟩ := hv
  have hb := (Tab.okB_iff T).2 hT
  have q0 := hT.lo
  have q1 := hT.hi
  obtain ⟨L, hL⟩ : ∃ L : Nat, (151 - T.first).toNat = L := ⟨_, rfl⟩
  have hcols := i_Cols hT hr'.1 hr'.2
  have i1 : IntKind.i64.wrap (T.first + k - T.first) = k := by rw [IntWalk.i64_in _ (by omega)]; omega
  have i2 : IntKind.i64.wrap (T.first + k + n) = T.first + k + n := IntWalk.i64_in _ (by omega)
  have i3 : IntKind.i64.wrap (T.first + k + n - T.first) = (k : Int) + n := by rw [IntWalk.i64_in _ (by omega)]; omega
  have i4 : ((k : Int) + n).toNat = k + n := by omega
  have HAS : ∀ v w, TabAt w T v → Calls Try.prog 220 #[v, .int .i64 r, .int .i64 kind, .int .i64 (T.first + k), .int .i64 n, .int .i64 m] w (Ret w (.bool true)) := fun v w h => by have := i_IsA T q0 r kind (T.first + k) n m v w h; rwa [has] at this
  replace HAS := Lib.hid HAS
  have HBEN := Lib.hid (i_Ben hT hr'.1 hk1 hk2 k n)
  clear has
  have hkL : (k : Int) < L := by omega
  have hjL : (k : Int) + n < L := by omega
  have h0k : (0 : Int) ≤ k := by omega
  have h0n : (0 : Int) ≤ (k : Int) + n := by omega
  have hkL2 : k < (151 - T.first).toNat := by omega
  have hjL2 : k + n < (151 - T.first).toNat := by omega
  go_enter Try.func223, Try.ntmps223
  go_upto_region 6 with (first | (go_at_call 197; refine (hcols _ _ (hv'.up (by repeat' (first | (with_reducible exact Up.refl _) | (with_reducible assumption) | (with_reducible refine Up.alloc ?_ _) | (with_reducible refine Up.drew ?_) | (with_reducible refine Up.grow ?_ _) | (with_reducible refine Up.setCell ?_ (by (try simp); (try omega)) _))))).mono ?_; rintro e w5 ⟨v5, rfl, hb5, g, cs, rfl, hg, hcs⟩) | (go_at_call 74; refine (i_Valid T true hb _ _ (hv'.up (by repeat' (first | (with_reducible exact Up.refl _) | (with_reducible assumption) | (with_reducible refine Up.alloc ?_ _) | (with_reducible refine Up.drew ?_) | (with_reducible refine Up.grow ?_ _) | (with_reducible refine Up.setCell ?_ (by (try simp); (try omega)) _))))).mono ?_; rintro e w' ⟨rfl, hbA⟩; obtain ⟨x, rfl⟩ := Grow.mk' hbA) | (go_at_call 220; refine (HAS.out _ _ (hv'.up (by repeat' (first | (with_reducible exact Up.refl _) | (with_reducible assumption) | (with_reducible refine Up.alloc ?_ _) | (with_reducible refine Up.drew ?_) | (with_reducible refine Up.grow ?_ _) | (with_reducible refine Up.setCell ?_ (by (try simp); (try omega)) _))))).mono ?_; rintro e w' ⟨rfl, hbB⟩; obtain ⟨y, rfl⟩ := Grow.on x hbB))
  have hb := hbA.trans hbB
  have hT5 : Blk w5 w.heap.size 31 #[.int .i64 T.first, .slice A T.n c] := (((Blk.new _ _ _).alloc _).up hb).up hb5
  have h15 : Blk w5 (w.heap.size + 1) 165 #[.int .i64 0, .int .i64 0, .int .i64 0] := by
    have h := ((Blk.new (w.alloc (.cells #[.int .i64 T.first, .slice A T.n c] 31)) 165 #[.int .i64 0, .int .i64 0, .int .i64 0]).up hb).up hb5
    simpa only [World.size_alloc] using h
  have hup : Up w w5 := ((Up.alloc (Up.alloc (Up.refl w) _) _).trans hb).trans hb5
  obtain ⟨a0, a1, a2, a3⟩ := row_at hg (hcs k hkL2)
  obtain ⟨b0, b1, b2, b3⟩ := row_at hg (hcs (k + n) hjL2)
  have t0 := hT5.cell 0
  have iT := hT5.inw; have ig := hg.inw; have i15 := h15.inw
  clear hcs hg hb hb5 hcols hI hc hm hT5
  have s1 : w.heap.size ≤ w.heap.size + 1 := by omega
  have e1 : ¬ g = w5.heap.size := by unfold InW at *; omega
  have e2 : ¬ g = w5.heap.size + 1 := by unfold InW at *; omega
  have e5 : ¬ w.heap.size = w5.heap.size := by unfold InW at *; omega
  have e6 : ¬ w.heap.size = w5.heap.size + 1 := by unfold InW at *; omega
  have e7 : ¬ w.heap.size + 1 = w5.heap.size := by unfold InW at *; omega
  have e8 : ¬ w.heap.size + 1 = w5.heap.size + 1 := by unfold InW at *; omega
  generalize w.heap.size + 1 = B1 at *
  have k10 := h15.cell 0; have k11 := h15.cell 1; have k12 := h15.cell 2
  have z1 := h15.frozen
  clear h15
  go_region_held3 (fun w' => w'.cell? ⟨w.heap.size, 0, none⟩ = some (.int .i64 T.first) ∧ w'.cell? ⟨g, k * 4, none⟩ = some (.int .i64 (T.D r k)) ∧ w'.cell? ⟨g, k * 4 + 1, none⟩ = some (.int .i64 (T.N r k)) ∧ w'.cell? ⟨g, k * 4 + 2, none⟩ = some (.int .i64 (T.C r k)) ∧ w'.cell? ⟨g, k * 4 + 3, none⟩ = some (.int .i64 (T.M r k)) ∧
      w'.cell? ⟨g, (k + n) * 4, none⟩ = some (.int .i64 (T.D r (k + n))) ∧ w'.cell? ⟨g, (k + n) * 4 + 1, none⟩ = some (.int .i64 (T.N r (k + n))) ∧ w'.cell? ⟨g, (k + n) * 4 + 2, none⟩ = some (.int .i64 (T.C r (k + n))) ∧ w'.cell? ⟨g, (k + n) * 4 + 3, none⟩ = some (.int .i64 (T.M r (k + n)))) ((repeat' apply And.intro) <;> go_simp) (fail)
  all_goals
    go_wp2_with (go_at_call 263; refine (HBEN.out _).mono ?_; rintro e w' ⟨rfl, hb⟩; first | (obtain ⟨x, rfl⟩ := Grow.on x hb) | (obtain ⟨x, rfl⟩ := Grow.mk' hb))
    refine bodyPost_ret (v := .tuple #[pp0, .int .i64 5]) (by simp [results, Try.results223, go_sem, pp0, k10, k11, k12, i15]) rfl ?_
    exact ⟨rfl, (by repeat' (first | (with_reducible exact Up.refl _) | (with_reducible assumption) | (with_reducible refine Up.alloc ?_ _) | (with_reducible refine Up.drew ?_) | (with_reducible refine Up.grow ?_ _) | (with_reducible refine Up.setCell ?_ (by (try simp); (try omega)) _)))⟩
set_option maxRecDepth 100000 in
set_option maxHeartbeats 4000000 in
theorem i_ChkPGoK (T : Tab) (r kind m : Int) (k n : Nat) (v : Value) (w : World) (hv : TabAt w T v) (hT : T.Ok) (hr' : 0 ≤ r ∧ r ≤ 200) (hk1 : 0 ≤ kind) (hk2 : kind ≤ 3) (has : asB T r kind (T.first + k) n m = true) (hl : T.first + k + n ≤ 150) (hd : (T.D r k == 0) = false) :
    Calls Try.prog 223 #[v, .int .i64 r, .int .i64 kind, .int .i64 (T.first + k), .int .i64 n, .int .i64 m] w (Ret w (.tuple #[(ppV T r kind k n), .int .i64 0])) := by
  have hv' := hv
  obtain ⟨A, c, rfl, hc, hm, _, hI⟩ := hv
  have hb := (Tab.okB_iff T).2 hT
  have q0 := hT.lo
  have q1 := hT.hi
  obtain ⟨L, hL⟩ : ∃ L : Nat, (151 - T.first).toNat = L := ⟨_, rfl⟩
  have hcols := i_Cols hT hr'.1 hr'.2
  have i1 : IntKind.i64.wrap (T.first + k - T.first) = k := by rw [IntWalk.i64_in _ (by omega)]; omega
  have i2 : IntKind.i64.wrap (T.first + k + n) = T.first + k + n := IntWalk.i64_in _ (by omega)
  have i3 : IntKind.i64.wrap (T.first + k + n - T.first) = (k : Int) + n := by rw [IntWalk.i64_in _ (by omega)]; omega
  have i4 : ((k : Int) + n).toNat = k + n := by omega
  have HAS : ∀ v w, TabAt w T v → Calls Try.prog 220 #[v, .int .i64 r, .int .i64 kind, .int .i64 (T.first + k), .int .i64 n, .int .i64 m] w (Ret w (.bool true)) := fun v w h => by have := i_IsA T q0 r kind (T.first + k) n m v w h; rwa [has] at this
  replace HAS := Lib.hid HAS
  have HBEN := Lib.hid (i_Ben hT hr'.1 hk1 hk2 k n)
  clear has
  have hkL : (k : Int) < L := by omega
  have hjL : (k : Int) + n < L := by omega
  have h0k : (0 : Int) ≤ k := by omega
  have h0n : (0 : Int) ≤ (k : Int) + n := by omega
  have hkL2 : k < (151 - T.first).toNat := by omega
  have hjL2 : k + n < (151 - T.first).toNat := by omega
  go_enter Try.func223, Try.ntmps223
  go_upto_region 6 with (first | (go_at_call 197; refine (hcols _ _ (hv'.up (by repeat' (first | (with_reducible exact Up.refl _) | (with_reducible assumption) | (with_reducible refine Up.alloc ?_ _) | (with_reducible refine Up.drew ?_) | (with_reducible refine Up.grow ?_ _) | (with_reducible refine Up.setCell ?_ (by (try simp); (try omega)) _))))).mono ?_; rintro e w5 ⟨v5, rfl, hb5, g, cs, rfl, hg, hcs⟩) | (go_at_call 74; refine (i_Valid T true hb _ _ (hv'.up (by repeat' (first | (with_reducible exact Up.refl _) | (with_reducible assumption) | (with_reducible refine Up.alloc ?_ _) | (with_reducible refine Up.drew ?_) | (with_reducible refine Up.grow ?_ _) | (with_reducible refine Up.setCell ?_ (by (try simp); (try omega)) _))))).mono ?_; rintro e w' ⟨rfl, hbA⟩; obtain ⟨x, rfl⟩ := Grow.mk' hbA) | (go_at_call 220; refine (HAS.out _ _ (hv'.up (by repeat' (first | (with_reducible exact Up.refl _) | (with_reducible assumption) | (with_reducible refine Up.alloc ?_ _) | (with_reducible refine Up.drew ?_) | (with_reducible refine Up.grow ?_ _) | (with_reducible refine Up.setCell ?_ (by (try simp); (try omega)) _))))).mono ?_; rintro e w' ⟨rfl, hbB⟩; obtain ⟨y, rfl⟩ := Grow.on x hbB))
  have hb := hbA.trans hbB
  have hT5 : Blk w5 w.heap.size 31 #[.int .i64 T.first, .slice A T.n c] := (((Blk.new _ _ _).alloc _).up hb).up hb5
  have h15 : Blk w5 (w.heap.size + 1) 165 #[.int .i64 0, .int .i64 0, .int .i64 0] := by
    have h := ((Blk.new (w.alloc (.cells #[.int .i64 T.first, .slice A T.n c] 31)) 165 #[.int .i64 0, .int .i64 0, .int .i64 0]).up hb).up hb5
    simpa only [World.size_alloc] using h
  have hup : Up w w5 := ((Up.alloc (Up.alloc (Up.refl w) _) _).trans hb).trans hb5
  obtain ⟨a0, a1, a2, a3⟩ := row_at hg (hcs k hkL2)
  obtain ⟨b0, b1, b2, b3⟩ := row_at hg (hcs (k + n) hjL2)
  have t0 := hT5.cell 0
  have iT := hT5.inw; have ig := hg.inw; have i15 := h15.inw
  clear hcs hg hb hb5 hcols hI hc hm hT5
  have s1 : w.heap.size ≤ w.heap.size + 1 := by omega
  have e1 : ¬ g = w5.heap.size := by unfold InW at *; omega
  have e2 : ¬ g = w5.heap.size + 1 := by unfold InW at *; omega
  have e5 : ¬ w.heap.size = w5.heap.size := by unfold InW at *; omega
  have e6 : ¬ w.heap.size = w5.heap.size + 1 := by unfold InW at *; omega
  have e7 : ¬ w.heap.size + 1 = w5.heap.size := by unfold InW at *; omega
  have e8 : ¬ w.heap.size + 1 = w5.heap.size + 1 := by unfold InW at *; omega
  generalize w.heap.size + 1 = B1 at *
  have k10 := h15.cell 0; have k11 := h15.cell 1; have k12 := h15.cell 2
  have z1 := h15.frozen
  clear h15
  go_region_held3 (fun w' => w'.cell? ⟨w.heap.size, 0, none⟩ = some (.int .i64 T.first) ∧ w'.cell? ⟨g, k * 4, none⟩ = some (.int .i64 (T.D r k)) ∧ w'.cell? ⟨g, k * 4 + 1, none⟩ = some (.int .i64 (T.N r k)) ∧ w'.cell? ⟨g, k * 4 + 2, none⟩ = some (.int .i64 (T.C r k)) ∧ w'.cell? ⟨g, k * 4 + 3, none⟩ = some (.int .i64 (T.M r k)) ∧
      w'.cell? ⟨g, (k + n) * 4, none⟩ = some (.int .i64 (T.D r (k + n))) ∧ w'.cell? ⟨g, (k + n) * 4 + 1, none⟩ = some (.int .i64 (T.N r (k + n))) ∧ w'.cell? ⟨g, (k + n) * 4 + 2, none⟩ = some (.int .i64 (T.C r (k + n))) ∧ w'.cell? ⟨g, (k + n) * 4 + 3, none⟩ = some (.int .i64 (T.M r (k + n)))) ((repeat' apply And.intro) <;> go_simp) (fail)
  all_goals
    go_wp2_with (go_at_call 263; refine (HBEN.out _).mono ?_; rintro e w' ⟨rfl, hb⟩; first | (obtain ⟨x, rfl⟩ := Grow.on x hb) | (obtain ⟨x, rfl⟩ := Grow.mk' hb))
    refine bodyPost_ret (v := .tuple #[(ppV T r kind k n), .int .i64 0]) (by simp [results, Try.results223, go_sem, ppV, k10, k11, k12, i15]) rfl ?_
    exact ⟨rfl, (by repeat' (first | (with_reducible exact Up.refl _) | (with_reducible assumption) | (with_reducible refine Up.alloc ?_ _) | (with_reducible refine Up.drew ?_) | (with_reducible refine Up.grow ?_ _) | (with_reducible refine Up.setCell ?_ (by (try simp); (try omega)) _)))⟩

theorem i_ChkP (T : Tab) (r kind age n m : Int) (v : Value) (w : World) (hv : TabAt w T v) :
    Calls Try.prog 223 #[v, .int .i64 r, .int .i64 kind, .int .i64 age, .int .i64 n, .int .i64 m] w (RetPP w T r kind age n (code7 T r kind age n (inR m 1 100000000))) := by
  by_cases hT : T.Ok
  case neg =>
    rw [code7_bad hT, RetPP_bad (by omega)]
    exact i_ChkPBad1 T r kind age n m v w hv hT
  obtain ⟨c1, c2, c3⟩ := code7_as hT r kind age n m
  by_cases has : asB T r kind age n m = true
  case neg =>
    have has := Bool.eq_false_iff.2 has
    rw [c1 has, RetPP_bad (by omega)]
    exact i_ChkPBad2 T r kind age n m v w hv hT has
  obtain ⟨h1, h2, h3, h4, h5⟩ := asB_iff.1 has
  rw [Bool.and_eq_true, fits_iff] at h2
  obtain ⟨k, hk⟩ : ∃ k : Nat, age = T.first + k := ⟨(age - T.first).toNat, by omega⟩
  obtain ⟨j, rfl⟩ := Int.eq_ofNat_of_zero_le h3
  subst hk
  rw [kk] at c2 c3
  by_cases hd : T.D r k = 0
  · rw [c2 has hd, RetPP_bad (by omega)]
    exact i_ChkPGoD T r kind m k j v w hv hT ⟨h1.1, h1.2.1⟩ h2.2.1.1 h2.2.1.2 has h5 hd
  · rw [c3 has hd, RetPP_ok, ix_k, Int.toNat_natCast]
    exact i_ChkPGoK T r kind m k j v w hv hT ⟨h1.1, h1.2.1⟩ h2.2.1.1 h2.2.1.2 has h5 (by simpa using hd)
end Go.Proofs.Ytdeoampkbbbleaa
