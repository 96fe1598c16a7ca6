/- The earned rate, both sides. Condition: none (a year that is not valid has code 1). -/
import Derived.Test.YtdeoampkbbbleaaSur2
namespace Go.Proofs.Ytdeoampkbbbleaa
open Go.RowKit Pu
set_option linter.unusedVariables false
set_option linter.unusedSimpArgs false

/-- The greatest rate up to k whose expected interest is at most the year's. -/
def Yr.er (y : Yr) : Nat → Nat
  | 0 => 0
  | k + 1 => if y.exp ((k + 1 : Nat) : Int) ≤ y.a4 then k + 1 else Yr.er y k
theorem Yr.er_le (y : Yr) : ∀ k, y.er k ≤ k
  | 0 => Nat.le_refl _
  | k + 1 => by
    show (if y.exp ((k + 1 : Nat) : Int) ≤ y.a4 then k + 1 else Yr.er y k) ≤ k + 1
    have := Yr.er_le y k
    split <;> omega
theorem Yr.er_stop (y : Yr) : ∀ k : Nat, y.exp k ≤ y.a4 → y.er k = k
  | 0, _ => rfl
  | k + 1, h => if_pos h
theorem Yr.er_step {y : Yr} (hO : y.Ok) : ∀ k : Nat, ¬ y.exp k ≤ y.a4 → 1 ≤ k ∧ y.er k = y.er (k - 1)
  | 0, h => by
    exfalso; apply h
    have : y.exp ((0 : Nat) : Int) = 0 := by unfold Yr.exp; simp
    rw [this]
    unfold Yr.Ok at hO; omega
  | k + 1, h => ⟨by omega, if_neg h⟩
set_option maxRecDepth 100000 in
theorem s_Earned (y : Yr) (w : World) : Calls Try.prog 49 #[y.v] w (Ret w (.tuple #[.int .i64 (if y.ok then y.er 200 else 0), .int .i64 (if y.ok then 0 else 1)])) := by
  have HI := fun (w : World) => s_IsYear y w
  by_cases hok : y.ok = true
  case neg =>
    have hok := Bool.eq_false_iff.2 hok
    rw [hok] at HI ⊢
    replace HI := Lib.hid HI
    obtain ⟨a0, a1, a2, a3, a4, a5, a6⟩ := y
    simp only [Yr.v, if_false, Bool.false_eq_true] at *
    clear hok
    go_enter Try.func49, Try.ntmps49
    go_wp2_with (first | (go_at_call 170; (with_reducible refine (HI.out _).mono ?_); rintro e w' ⟨rfl, hb⟩; first | (obtain ⟨x, rfl⟩ := Grow.on x hb) | (obtain ⟨x, rfl⟩ := Grow.mk' hb)) | (go_at_call 142; (with_reducible refine (s_In _ _ _ _).mono ?_); rintro e w' ⟨rfl, rfl⟩) | (go_at_call 186; (with_reducible refine (i_In _ _ _ _).mono ?_); rintro e w' ⟨rfl, rfl⟩) | (go_at_call 222; (with_reducible refine (s_Rate _ _).mono ?_); rintro e w' ⟨rfl, rfl⟩) | (go_at_call 165; (with_reducible refine (i_Rate _ _).mono ?_); rintro e w' ⟨rfl, rfl⟩) | (go_at_call 262; (with_reducible refine (i_Years _ _).mono ?_); rintro e w' ⟨rfl, rfl⟩) | (go_at_call 227; (with_reducible refine (s_Amount6 _ _).mono ?_); rintro e w' ⟨rfl, rfl⟩) | (go_at_call 236; (with_reducible refine (s_Sum7 _ _).mono ?_); rintro e w' ⟨rfl, rfl⟩) | ((first | with_reducible refine wp_region_in x (by kernel_rfl) (by kernel_rfl) ?_ | with_reducible refine wp_region_here (by kernel_rfl) (by kernel_rfl) ?_); (repeat (go_big_quiet_step ((first | (go_at_call 170; with_reducible exact Ret.grow _ (HI.out _)) | (go_at_call 142; with_reducible exact Ret.same _ (s_In _ _ _ _)) | (go_at_call 186; with_reducible exact Ret.same _ (i_In _ _ _ _)) | (go_at_call 222; with_reducible exact Ret.same _ (s_Rate _ _)) | (go_at_call 165; with_reducible exact Ret.same _ (i_Rate _ _)) | (go_at_call 262; with_reducible exact Ret.same _ (i_Years _ _)) | (go_at_call 227; with_reducible exact Ret.same _ (s_Amount6 _ _)) | (go_at_call 236; with_reducible exact Ret.same _ (s_Sum7 _ _)))))); refine wpQuiet_nil ?_; intro w' hw'; obtain ⟨x, rfl⟩ := hw'))
    go_ret2
    exact ⟨rfl, (by repeat' (first | (with_reducible exact Up.refl _) | (with_reducible assumption) | (with_reducible refine Up.alloc ?_ _) | (with_reducible refine Up.drew ?_) | (with_reducible refine Up.grow ?_ _) | (with_reducible refine Up.setCell ?_ (by (try simp); (try omega)) _)))⟩
  have hO : y.Ok := by unfold Yr.ok at hok; exact of_decide_eq_true hok
  rw [if_pos hok, if_pos hok]
  rw [hok] at HI
  replace HI := Lib.hid HI
  have HE := Lib.hid fun (k : Nat) (hk : k ≤ 200) (w : World) => s_Exp18 y hO k (by omega) (by omega) w
  have H1 := Lib.hid y.er_stop
  have H2 := Lib.hid (Yr.er_step hO)
  obtain ⟨q, hq⟩ : ∃ q, y.er 200 = q := ⟨_, rfl⟩
  rw [hq]
  replace hq := Lib.hid hq
  obtain ⟨e, he⟩ : ∃ e : Nat → Int, e = fun (k : Nat) => y.exp (k : Int) := ⟨_, rfl⟩
  have he' : ∀ k : Nat, y.exp k = e k := fun k => by rw [he]
  simp only [he'] at HE H1 H2
  obtain ⟨g, hg⟩ : ∃ g : Nat → Nat, g = y.er := ⟨_, rfl⟩
  rw [← hg] at H1 H2 hq
  obtain ⟨a0, a1, a2, a3, a4, a5, a6⟩ := y
  simp only [Yr.v] at *
  clear hok hO he he' hg
  go_enter Try.func49, Try.ntmps49
  go_wp2_with (first | (go_at_call 170; (with_reducible refine (HI.out _).mono ?_); rintro e w' ⟨rfl, hb⟩; first | (obtain ⟨x, rfl⟩ := Grow.on x hb) | (obtain ⟨x, rfl⟩ := Grow.mk' hb)) | (go_at_call 142; (with_reducible refine (s_In _ _ _ _).mono ?_); rintro e w' ⟨rfl, rfl⟩) | (go_at_call 186; (with_reducible refine (i_In _ _ _ _).mono ?_); rintro e w' ⟨rfl, rfl⟩) | (go_at_call 222; (with_reducible refine (s_Rate _ _).mono ?_); rintro e w' ⟨rfl, rfl⟩) | (go_at_call 165; (with_reducible refine (i_Rate _ _).mono ?_); rintro e w' ⟨rfl, rfl⟩) | (go_at_call 262; (with_reducible refine (i_Years _ _).mono ?_); rintro e w' ⟨rfl, rfl⟩) | (go_at_call 227; (with_reducible refine (s_Amount6 _ _).mono ?_); rintro e w' ⟨rfl, rfl⟩) | (go_at_call 236; (with_reducible refine (s_Sum7 _ _).mono ?_); rintro e w' ⟨rfl, rfl⟩) | ((first | with_reducible refine wp_region_in x (by kernel_rfl) (by kernel_rfl) ?_ | with_reducible refine wp_region_here (by kernel_rfl) (by kernel_rfl) ?_); (repeat (go_big_quiet_step ((first | (go_at_call 170; with_reducible exact Ret.grow _ (HI.out _)) | (go_at_call 142; with_reducible exact Ret.same _ (s_In _ _ _ _)) | (go_at_call 186; with_reducible exact Ret.same _ (i_In _ _ _ _)) | (go_at_call 222; with_reducible exact Ret.same _ (s_Rate _ _)) | (go_at_call 165; with_reducible exact Ret.same _ (i_Rate _ _)) | (go_at_call 262; with_reducible exact Ret.same _ (i_Years _ _)) | (go_at_call 227; with_reducible exact Ret.same _ (s_Amount6 _ _)) | (go_at_call 236; with_reducible exact Ret.same _ (s_Sum7 _ _)))))); refine wpQuiet_nil ?_; intro w' hw'; obtain ⟨x, rfl⟩ := hw'))
  go_loopw [4] (fun i wr => ∃ (k : Nat) (z : Grow (w.alloc (.cells #[.int .i64 a0, .int .i64 a1, .int .i64 a2, .int .i64 a3, .int .i64 a4, .int .i64 a5, .int .i64 a6] 53))), k ≤ 200 ∧ i = .int .i64 k ∧ wr = z.to ∧ Hid (g k = q)) (fun i _ => (intOf i).toNat)
  case atStart => exact ⟨200, x, by omega, rfl, rfl, hq⟩
  case round =>
    clear hb x
    obtain ⟨k, z, hk, rfl, rfl, HK⟩ := hrel
    by_cases hlt : e k ≤ a4
    · have hlt1 : ¬ a4 < e k := by omega
      have HQ : Hid (k = q) := Lib.hid ((H1.out k hlt).symm.trans HK.out)
      clear hlt
      go_wp2_with (first | (go_at_call 172; (with_reducible refine (HE.out k hk _).mono ?_); rintro e w' ⟨rfl, hb⟩; first | (obtain ⟨x, rfl⟩ := Grow.on x hb) | (obtain ⟨x, rfl⟩ := Grow.mk' hb)) | (go_at_call 142; (with_reducible refine (s_In _ _ _ _).mono ?_); rintro e w' ⟨rfl, rfl⟩) | (go_at_call 186; (with_reducible refine (i_In _ _ _ _).mono ?_); rintro e w' ⟨rfl, rfl⟩) | (go_at_call 222; (with_reducible refine (s_Rate _ _).mono ?_); rintro e w' ⟨rfl, rfl⟩) | (go_at_call 165; (with_reducible refine (i_Rate _ _).mono ?_); rintro e w' ⟨rfl, rfl⟩) | (go_at_call 262; (with_reducible refine (i_Years _ _).mono ?_); rintro e w' ⟨rfl, rfl⟩) | (go_at_call 227; (with_reducible refine (s_Amount6 _ _).mono ?_); rintro e w' ⟨rfl, rfl⟩) | (go_at_call 236; (with_reducible refine (s_Sum7 _ _).mono ?_); rintro e w' ⟨rfl, rfl⟩) | ((first | with_reducible refine wp_region_in x (by kernel_rfl) (by kernel_rfl) ?_ | with_reducible refine wp_region_here (by kernel_rfl) (by kernel_rfl) ?_); (repeat (go_big_quiet_step ((first | (go_at_call 172; with_reducible exact Ret.grow _ (HE.out k hk _)) | (go_at_call 142; with_reducible exact Ret.same _ (s_In _ _ _ _)) | (go_at_call 186; with_reducible exact Ret.same _ (i_In _ _ _ _)) | (go_at_call 222; with_reducible exact Ret.same _ (s_Rate _ _)) | (go_at_call 165; with_reducible exact Ret.same _ (i_Rate _ _)) | (go_at_call 262; with_reducible exact Ret.same _ (i_Years _ _)) | (go_at_call 227; with_reducible exact Ret.same _ (s_Amount6 _ _)) | (go_at_call 236; with_reducible exact Ret.same _ (s_Sum7 _ _)))))); refine wpQuiet_nil ?_; intro w' hw'; obtain ⟨x, rfl⟩ := hw'))
      go_ret2
      exact ⟨by rw [HQ.out]; rfl, (by repeat' (first | (with_reducible exact Up.refl _) | (with_reducible assumption) | (with_reducible refine Up.alloc ?_ _) | (with_reducible refine Up.drew ?_) | (with_reducible refine Up.grow ?_ _) | (with_reducible refine Up.setCell ?_ (by (try simp); (try omega)) _)))⟩
    · have hlt1 : a4 < e k := by omega
      have HQ := Lib.hid (H2.out k (by first | exact hlt | exact hlt1))
      have hk1 := HQ.out.1
      have i1 : IntKind.i64.wrap ((k : Int) - 1) = (k : Int) - 1 := IntWalk.i64_in _ (by omega)
      clear hlt
      go_wp2_with (first | (go_at_call 172; (with_reducible refine (HE.out k hk _).mono ?_); rintro e w' ⟨rfl, hb⟩; first | (obtain ⟨x, rfl⟩ := Grow.on x hb) | (obtain ⟨x, rfl⟩ := Grow.mk' hb)) | (go_at_call 142; (with_reducible refine (s_In _ _ _ _).mono ?_); rintro e w' ⟨rfl, rfl⟩) | (go_at_call 186; (with_reducible refine (i_In _ _ _ _).mono ?_); rintro e w' ⟨rfl, rfl⟩) | (go_at_call 222; (with_reducible refine (s_Rate _ _).mono ?_); rintro e w' ⟨rfl, rfl⟩) | (go_at_call 165; (with_reducible refine (i_Rate _ _).mono ?_); rintro e w' ⟨rfl, rfl⟩) | (go_at_call 262; (with_reducible refine (i_Years _ _).mono ?_); rintro e w' ⟨rfl, rfl⟩) | (go_at_call 227; (with_reducible refine (s_Amount6 _ _).mono ?_); rintro e w' ⟨rfl, rfl⟩) | (go_at_call 236; (with_reducible refine (s_Sum7 _ _).mono ?_); rintro e w' ⟨rfl, rfl⟩) | ((first | with_reducible refine wp_region_in x (by kernel_rfl) (by kernel_rfl) ?_ | with_reducible refine wp_region_here (by kernel_rfl) (by kernel_rfl) ?_); (repeat (go_big_quiet_step ((first | (go_at_call 172; with_reducible exact Ret.grow _ (HE.out k hk _)) | (go_at_call 142; with_reducible exact Ret.same _ (s_In _ _ _ _)) | (go_at_call 186; with_reducible exact Ret.same _ (i_In _ _ _ _)) | (go_at_call 222; with_reducible exact Ret.same _ (s_Rate _ _)) | (go_at_call 165; with_reducible exact Ret.same _ (i_Rate _ _)) | (go_at_call 262; with_reducible exact Ret.same _ (i_Years _ _)) | (go_at_call 227; with_reducible exact Ret.same _ (s_Amount6 _ _)) | (go_at_call 236; with_reducible exact Ret.same _ (s_Sum7 _ _)))))); refine wpQuiet_nil ?_; intro w' hw'; obtain ⟨x, rfl⟩ := hw'))
      go_round
      case rel => exact ⟨k - 1, ⟨x.to, show Up _ x.to from (by repeat' (first | (with_reducible exact Up.refl _) | (with_reducible assumption) | (with_reducible refine Up.alloc ?_ _) | (with_reducible refine Up.drew ?_) | (with_reducible refine Up.grow ?_ _) | (with_reducible refine Up.setCell ?_ (by (try simp); (try omega)) _)))⟩, by omega, by go_num, rfl, Lib.hid (HQ.out.2.symm.trans HK.out)⟩
      case measure => simp [intOf]; omega
set_option maxRecDepth 100000 in
theorem i_Earned (y : Yr) (w : World) : Calls Try.prog 48 #[y.v] w (Ret w (.tuple #[.int .i64 (if y.ok then y.er 200 else 0), .int .i64 (if y.ok then 0 else 1)])) := by
  have HI := fun (w : World) => i_IsYear y w
  by_cases hok : y.ok = true
  case neg =>
    have hok := Bool.eq_false_iff.2 hok
    rw [hok] at HI ⊢
    replace HI := Lib.hid HI
    obtain ⟨a0, a1, a2, a3, a4, a5, a6⟩ := y
    simp only [Yr.v, if_false, Bool.false_eq_true] at *
    clear hok
    go_enter Try.func48, Try.ntmps48
    go_wp2_with (first | (go_at_call 51; (with_reducible refine (HI.out _).mono ?_); rintro e w' ⟨rfl, hb⟩; first | (obtain ⟨x, rfl⟩ := Grow.on x hb) | (obtain ⟨x, rfl⟩ := Grow.mk' hb)) | (go_at_call 142; (with_reducible refine (s_In _ _ _ _).mono ?_); rintro e w' ⟨rfl, rfl⟩) | (go_at_call 186; (with_reducible refine (i_In _ _ _ _).mono ?_); rintro e w' ⟨rfl, rfl⟩) | (go_at_call 222; (with_reducible refine (s_Rate _ _).mono ?_); rintro e w' ⟨rfl, rfl⟩) | (go_at_call 165; (with_reducible refine (i_Rate _ _).mono ?_); rintro e w' ⟨rfl, rfl⟩) | (go_at_call 262; (with_reducible refine (i_Years _ _).mono ?_); rintro e w' ⟨rfl, rfl⟩) | (go_at_call 227; (with_reducible refine (s_Amount6 _ _).mono ?_); rintro e w' ⟨rfl, rfl⟩) | (go_at_call 236; (with_reducible refine (s_Sum7 _ _).mono ?_); rintro e w' ⟨rfl, rfl⟩) | ((first | with_reducible refine wp_region_in x (by kernel_rfl) (by kernel_rfl) ?_ | with_reducible refine wp_region_here (by kernel_rfl) (by kernel_rfl) ?_); (repeat (go_big_quiet_step ((first | (go_at_call 51; with_reducible exact Ret.grow _ (HI.out _)) | (go_at_call 142; with_reducible exact Ret.same _ (s_In _ _ _ _)) | (go_at_call 186; with_reducible exact Ret.same _ (i_In _ _ _ _)) | (go_at_call 222; with_reducible exact Ret.same _ (s_Rate _ _)) | (go_at_call 165; with_reducible exact Ret.same _ (i_Rate _ _)) | (go_at_call 262; with_reducible exact Ret.same _ (i_Years _ _)) | (go_at_call 227; with_reducible exact Ret.same _ (s_Amount6 _ _)) | (go_at_call 236; with_reducible exact Ret.same _ (s_Sum7 _ _)))))); refine wpQuiet_nil ?_; intro w' hw'; obtain ⟨x, rfl⟩ := hw'))
    go_ret2
    exact ⟨rfl, (by repeat' (first | (with_reducible exact Up.refl _) | (with_reducible assumption) | (with_reducible refine Up.alloc ?_ _) | (with_reducible refine Up.drew ?_) | (with_reducible refine Up.grow ?_ _) | (with_reducible refine Up.setCell ?_ (by (try simp); (try omega)) _)))⟩
  have hO : y.Ok := by unfold Yr.ok at hok; exact of_decide_eq_true hok
  rw [if_pos hok, if_pos hok]
  rw [hok] at HI
  replace HI := Lib.hid HI
  have HE := Lib.hid fun (k : Nat) (hk : k ≤ 200) (w : World) => i_YExp y hO k (by omega) (by omega) w
  have H1 := Lib.hid y.er_stop
  have H2 := Lib.hid (Yr.er_step hO)
  obtain ⟨q, hq⟩ : ∃ q, y.er 200 = q := ⟨_, rfl⟩
  rw [hq]
  replace hq := Lib.hid hq
  obtain ⟨e, he⟩ : ∃ e : Nat → Int, e = fun (k : Nat) => y.exp (k : Int) := ⟨_, rfl⟩
  have he' : ∀ k : Nat, y.exp k = e k := fun k => by rw [he]
  simp only [he'] at HE H1 H2
  obtain ⟨g, hg⟩ : ∃ g : Nat → Nat, g = y.er := ⟨_, rfl⟩
  rw [← hg] at H1 H2 hq
  obtain ⟨a0, a1, a2, a3, a4, a5, a6⟩ := y
  simp only [Yr.v] at *
  clear hok hO he he' hg
  go_enter Try.func48, Try.ntmps48
  go_wp2_with (first | (go_at_call 51; (with_reducible refine (HI.out _).mono ?_); rintro e w' ⟨rfl, hb⟩; first | (obtain ⟨x, rfl⟩ := Grow.on x hb) | (obtain ⟨x, rfl⟩ := Grow.mk' hb)) | (go_at_call 142; (with_reducible refine (s_In _ _ _ _).mono ?_); rintro e w' ⟨rfl, rfl⟩) | (go_at_call 186; (with_reducible refine (i_In _ _ _ _).mono ?_); rintro e w' ⟨rfl, rfl⟩) | (go_at_call 222; (with_reducible refine (s_Rate _ _).mono ?_); rintro e w' ⟨rfl, rfl⟩) | (go_at_call 165; (with_reducible refine (i_Rate _ _).mono ?_); rintro e w' ⟨rfl, rfl⟩) | (go_at_call 262; (with_reducible refine (i_Years _ _).mono ?_); rintro e w' ⟨rfl, rfl⟩) | (go_at_call 227; (with_reducible refine (s_Amount6 _ _).mono ?_); rintro e w' ⟨rfl, rfl⟩) | (go_at_call 236; (with_reducible refine (s_Sum7 _ _).mono ?_); rintro e w' ⟨rfl, rfl⟩) | ((first | with_reducible refine wp_region_in x (by kernel_rfl) (by kernel_rfl) ?_ | with_reducible refine wp_region_here (by kernel_rfl) (by kernel_rfl) ?_); (repeat (go_big_quiet_step ((first | (go_at_call 51; with_reducible exact Ret.grow _ (HI.out _)) | (go_at_call 142; with_reducible exact Ret.same _ (s_In _ _ _ _)) | (go_at_call 186; with_reducible exact Ret.same _ (i_In _ _ _ _)) | (go_at_call 222; with_reducible exact Ret.same _ (s_Rate _ _)) | (go_at_call 165; with_reducible exact Ret.same _ (i_Rate _ _)) | (go_at_call 262; with_reducible exact Ret.same _ (i_Years _ _)) | (go_at_call 227; with_reducible exact Ret.same _ (s_Amount6 _ _)) | (go_at_call 236; with_reducible exact Ret.same _ (s_Sum7 _ _)))))); refine wpQuiet_nil ?_; intro w' hw'; obtain ⟨x, rfl⟩ := hw'))
  go_loopw [4] (fun i wr => ∃ (k : Nat) (z : Grow (w.alloc (.cells #[.int .i64 a0, .int .i64 a1, .int .i64 a2, .int .i64 a3, .int .i64 a4, .int .i64 a5, .int .i64 a6] 53))), k ≤ 200 ∧ i = .int .i64 k ∧ wr = z.to ∧ Hid (g k = q)) (fun i _ => (intOf i).toNat)
  case atStart => exact ⟨200, x, by omega, rfl, rfl, hq⟩
  case round =>
    clear hb x
    obtain ⟨k, z, hk, rfl, rfl, HK⟩ := hrel
    by_cases hlt : e k ≤ a4
    · have hlt1 : ¬ a4 < e k := by omega
      have HQ : Hid (k = q) := Lib.hid ((H1.out k hlt).symm.trans HK.out)
      clear hlt
      go_wp2_with (first | (go_at_call 166; (with_reducible refine (HE.out k hk _).mono ?_); rintro e w' ⟨rfl, hb⟩; first | (obtain ⟨x, rfl⟩ := Grow.on x hb) | (obtain ⟨x, rfl⟩ := Grow.mk' hb)) | (go_at_call 142; (with_reducible refine (s_In _ _ _ _).mono ?_); rintro e w' ⟨rfl, rfl⟩) | (go_at_call 186; (with_reducible refine (i_In _ _ _ _).mono ?_); rintro e w' ⟨rfl, rfl⟩) | (go_at_call 222; (with_reducible refine (s_Rate _ _).mono ?_); rintro e w' ⟨rfl, rfl⟩) | (go_at_call 165; (with_reducible refine (i_Rate _ _).mono ?_); rintro e w' ⟨rfl, rfl⟩) | (go_at_call 262; (with_reducible refine (i_Years _ _).mono ?_); rintro e w' ⟨rfl, rfl⟩) | (go_at_call 227; (with_reducible refine (s_Amount6 _ _).mono ?_); rintro e w' ⟨rfl, rfl⟩) | (go_at_call 236; (with_reducible refine (s_Sum7 _ _).mono ?_); rintro e w' ⟨rfl, rfl⟩) | ((first | with_reducible refine wp_region_in x (by kernel_rfl) (by kernel_rfl) ?_ | with_reducible refine wp_region_here (by kernel_rfl) (by kernel_rfl) ?_); (repeat (go_big_quiet_step ((first | (go_at_call 166; with_reducible exact Ret.grow _ (HE.out k hk _)) | (go_at_call 142; with_reducible exact Ret.same _ (s_In _ _ _ _)) | (go_at_call 186; with_reducible exact Ret.same _ (i_In _ _ _ _)) | (go_at_call 222; with_reducible exact Ret.same _ (s_Rate _ _)) | (go_at_call 165; with_reducible exact Ret.same _ (i_Rate _ _)) | (go_at_call 262; with_reducible exact Ret.same _ (i_Years _ _)) | (go_at_call 227; with_reducible exact Ret.same _ (s_Amount6 _ _)) | (go_at_call 236; with_reducible exact Ret.same _ (s_Sum7 _ _)))))); refine wpQuiet_nil ?_; intro w' hw'; obtain ⟨x, rfl⟩ := hw'))
      go_ret2
      exact ⟨by rw [HQ.out]; rfl, (by repeat' (first | (with_reducible exact Up.refl _) | (with_reducible assumption) | (with_reducible refine Up.alloc ?_ _) | (with_reducible refine Up.drew ?_) | (with_reducible refine Up.grow ?_ _) | (with_reducible refine Up.setCell ?_ (by (try simp); (try omega)) _)))⟩
    · have hlt1 : a4 < e k := by omega
      have HQ := Lib.hid (H2.out k (by first | exact hlt | exact hlt1))
      have hk1 := HQ.out.1
      have i1 : IntKind.i64.wrap ((k : Int) - 1) = (k : Int) - 1 := IntWalk.i64_in _ (by omega)
      clear hlt
      go_wp2_with (first | (go_at_call 166; (with_reducible refine (HE.out k hk _).mono ?_); rintro e w' ⟨rfl, hb⟩; first | (obtain ⟨x, rfl⟩ := Grow.on x hb) | (obtain ⟨x, rfl⟩ := Grow.mk' hb)) | (go_at_call 142; (with_reducible refine (s_In _ _ _ _).mono ?_); rintro e w' ⟨rfl, rfl⟩) | (go_at_call 186; (with_reducible refine (i_In _ _ _ _).mono ?_); rintro e w' ⟨rfl, rfl⟩) | (go_at_call 222; (with_reducible refine (s_Rate _ _).mono ?_); rintro e w' ⟨rfl, rfl⟩) | (go_at_call 165; (with_reducible refine (i_Rate _ _).mono ?_); rintro e w' ⟨rfl, rfl⟩) | (go_at_call 262; (with_reducible refine (i_Years _ _).mono ?_); rintro e w' ⟨rfl, rfl⟩) | (go_at_call 227; (with_reducible refine (s_Amount6 _ _).mono ?_); rintro e w' ⟨rfl, rfl⟩) | (go_at_call 236; (with_reducible refine (s_Sum7 _ _).mono ?_); rintro e w' ⟨rfl, rfl⟩) | ((first | with_reducible refine wp_region_in x (by kernel_rfl) (by kernel_rfl) ?_ | with_reducible refine wp_region_here (by kernel_rfl) (by kernel_rfl) ?_); (repeat (go_big_quiet_step ((first | (go_at_call 166; with_reducible exact Ret.grow _ (HE.out k hk _)) | (go_at_call 142; with_reducible exact Ret.same _ (s_In _ _ _ _)) | (go_at_call 186; with_reducible exact Ret.same _ (i_In _ _ _ _)) | (go_at_call 222; with_reducible exact Ret.same _ (s_Rate _ _)) | (go_at_call 165; with_reducible exact Ret.same _ (i_Rate _ _)) | (go_at_call 262; with_reducible exact Ret.same _ (i_Years _ _)) | (go_at_call 227; with_reducible exact Ret.same _ (s_Amount6 _ _)) | (go_at_call 236; with_reducible exact Ret.same _ (s_Sum7 _ _)))))); refine wpQuiet_nil ?_; intro w' hw'; obtain ⟨x, rfl⟩ := hw'))
      go_round
      case rel => exact ⟨k - 1, ⟨x.to, show Up _ x.to from (by repeat' (first | (with_reducible exact Up.refl _) | (with_reducible assumption) | (with_reducible refine Up.alloc ?_ _) | (with_reducible refine Up.drew ?_) | (with_reducible refine Up.grow ?_ _) | (with_reducible refine Up.setCell ?_ (by (try simp); (try omega)) _)))⟩, by omega, by go_num, rfl, Lib.hid (HQ.out.2.symm.trans HK.out)⟩
      case measure => simp [intOf]; omega
end Go.Proofs.Ytdeoampkbbbleaa
