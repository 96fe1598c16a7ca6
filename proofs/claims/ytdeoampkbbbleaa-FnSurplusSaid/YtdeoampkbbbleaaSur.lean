/- The years of a fund: IsYearResult, the end, the expected interest, EndFund, SurplusOf, both sides. Condition: the year's numbers lie within 3 * 10^12. -/
import Derived.Test.YtdeoampkbbbleaaDrawT
namespace Go.Proofs.Ytdeoampkbbbleaa
open Go.RowKit Pu
set_option linter.unusedVariables false
set_option linter.unusedSimpArgs false

/-- A year of a fund. -/
structure Yr where
  a0 : Int
  a1 : Int
  a2 : Int
  a3 : Int
  a4 : Int
  a5 : Int
  a6 : Int
/-- The year as a value. -/
def Yr.v (y : Yr) : Value := .agg #[.int .i64 y.a0, .int .i64 y.a1, .int .i64 y.a2, .int .i64 y.a3, .int .i64 y.a4, .int .i64 y.a5, .int .i64 y.a6]
/-- Bounds of what is drawn. -/
def Yr.Bd (y : Yr) : Prop := (-3000000000000 ≤ y.a0 ∧ y.a0 ≤ 3000000000000) ∧ (-3000000000000 ≤ y.a1 ∧ y.a1 ≤ 3000000000000) ∧ (-3000000000000 ≤ y.a2 ∧ y.a2 ≤ 3000000000000) ∧ (-3000000000000 ≤ y.a3 ∧ y.a3 ≤ 3000000000000) ∧ (-3000000000000 ≤ y.a4 ∧ y.a4 ≤ 3000000000000) ∧ (-3000000000000 ≤ y.a5 ∧ y.a5 ≤ 3000000000000) ∧ (-3000000000000 ≤ y.a6 ∧ y.a6 ≤ 3000000000000)
/-- All numbers are sums of money. -/
def Yr.Ok (y : Yr) : Prop := (0 ≤ y.a0 ∧ y.a0 ≤ 1000000000000) ∧ (0 ≤ y.a1 ∧ y.a1 ≤ 1000000000000) ∧ (0 ≤ y.a2 ∧ y.a2 ≤ 1000000000000) ∧ (0 ≤ y.a3 ∧ y.a3 ≤ 1000000000000) ∧ (0 ≤ y.a4 ∧ y.a4 ≤ 1000000000000) ∧ (0 ≤ y.a5 ∧ y.a5 ≤ 1000000000000) ∧ (0 ≤ y.a6 ∧ y.a6 ≤ 1000000000000)
instance (y : Yr) : Decidable y.Ok := by unfold Yr.Ok; infer_instance
/-- The same as a boolean. -/
def Yr.ok (y : Yr) : Bool := decide y.Ok
/-- The fund at the end. -/
def Yr.fin (y : Yr) : Int := y.a0 + y.a1 + y.a2 - y.a3 + y.a4 - y.a5
theorem Yr.fin_wrap {y : Yr} (h : y.Bd) : IntKind.i64.wrap (y.a0 + y.a1) = y.a0 + y.a1 ∧ IntKind.i64.wrap (y.a0 + y.a1 + y.a2) = y.a0 + y.a1 + y.a2 ∧ IntKind.i64.wrap (y.a0 + y.a1 + y.a2 - y.a3) = y.a0 + y.a1 + y.a2 - y.a3 ∧ IntKind.i64.wrap (y.a0 + y.a1 + y.a2 - y.a3 + y.a4) = y.a0 + y.a1 + y.a2 - y.a3 + y.a4 ∧ IntKind.i64.wrap (y.a0 + y.a1 + y.a2 - y.a3 + y.a4 - y.a5) = y.a0 + y.a1 + y.a2 - y.a3 + y.a4 - y.a5 := by
  unfold Yr.Bd at h
  refine ⟨?_, ?_, ?_, ?_, ?_⟩ <;> exact IntWalk.i64_in _ (by omega)
theorem blk_new_at {w : World} {B t : Nat} {cs : Array Value} (h : B = w.heap.size) : Blk (w.alloc (.cells cs t)) B t cs := by subst h; exact Blk.new _ _ _
/-- A list that has been written out, as ints. -/
theorem ints_lit {w : World} {B t n : Nat} {xs : List Int} {cs : Array Value} (hcs : cs = (xs.map (Value.int .i64)).toArray) (hl : xs.length = n) (hB : Blk w B t cs) : Ints w (some ⟨B, 0, none⟩) n (fun i => xs.getD i 0) := by
  intro i hi
  refine ⟨B, 0, rfl, hB.inw, ?_⟩
  rw [Nat.zero_add, hB.cell, hcs]
  have : i < xs.length := by omega
  simp [this]
/-- The year's numbers as a list. -/
abbrev Yr.xs (y : Yr) : List Int := [y.a0, y.a1, y.a2, y.a3, y.a4, y.a5, y.a6]
theorem Yr.ok_iff (y : Yr) : y.ok = true ↔ ∀ i, i < 7 → 0 ≤ y.xs.getD i 0 ∧ y.xs.getD i 0 ≤ 1000000000000 := by
  unfold Yr.ok
  rw [decide_eq_true_iff]
  constructor
  · intro h i hi
    obtain ⟨h0, h1, h2, h3, h4, h5, h6⟩ := h
    match i, hi with
    | 0, _ => exact h0
    | 1, _ => exact h1
    | 2, _ => exact h2
    | 3, _ => exact h3
    | 4, _ => exact h4
    | 5, _ => exact h5
    | 6, _ => exact h6
  · intro h
    exact ⟨h 0 (by omega), h 1 (by omega), h 2 (by omega), h 3 (by omega), h 4 (by omega), h 5 (by omega), h 6 (by omega)⟩
set_option maxRecDepth 100000 in
theorem i_IsYear (y : Yr) (w : World) : Calls Try.prog 51 #[y.v] w (Ret w (.bool y.ok)) := by
  have hb := Lib.hid y.ok_iff
  generalize y.ok = b at *
  obtain ⟨a0, a1, a2, a3, a4, a5, a6⟩ := y
  simp only [Yr.v]
  go_enter Try.func51, Try.ntmps51
  go_wp2_with (go_at_call 173; (refine (i_AllIn _ 7 7 (fun i => [a0, a1, a2, a3, a4, a5, a6].getD i 0) 0 1000000000000 (by omega) b hb.out _ (ints_lit (xs := [a0, a1, a2, a3, a4, a5, a6]) (cs := #[.int .i64 a0, .int .i64 a1, .int .i64 a2, .int .i64 a3, .int .i64 a4, .int .i64 a5, .int .i64 a6]) (t := 2) rfl rfl (blk_new_at (by simp only [World.size_alloc])))).mono ?_); rintro e w1 ⟨rfl, h1⟩)
  go_ret
  exact ⟨rfl, (Up.alloc (Up.alloc (Up.refl w) _) _).trans h1⟩
set_option maxRecDepth 100000 in
theorem s_IsYear (y : Yr) (w : World) : Calls Try.prog 170 #[y.v] w (Ret w (.bool y.ok)) := by
  have hb := Lib.hid y.ok_iff
  generalize y.ok = b at *
  obtain ⟨a0, a1, a2, a3, a4, a5, a6⟩ := y
  simp only [Yr.v]
  go_enter Try.func170, Try.ntmps170
  go_wp2_with (go_at_call 251; (refine (s_Within _ 7 7 (fun i => [a0, a1, a2, a3, a4, a5, a6].getD i 0) 7 0 1000000000000 (by omega) (by omega) b hb.out _ (ints_lit (xs := [a0, a1, a2, a3, a4, a5, a6]) (cs := #[.int .i64 a0, .int .i64 a1, .int .i64 a2, .int .i64 a3, .int .i64 a4, .int .i64 a5, .int .i64 a6]) (t := 2) rfl rfl (blk_new_at (by simp only [World.size_alloc])))).mono ?_); rintro e w1 ⟨rfl, rfl⟩)
  go_ret
  exact ⟨rfl, (by repeat' (first | (with_reducible exact Up.refl _) | (with_reducible assumption) | (with_reducible refine Up.alloc ?_ _) | (with_reducible refine Up.drew ?_) | (with_reducible refine Up.grow ?_ _) | (with_reducible refine Up.setCell ?_ (by (try simp); (try omega)) _)))⟩
theorem s_End18 (y : Yr) (h : y.Bd) (w : World) : Calls Try.prog 171 #[y.v] w (Ret w (.int .i64 y.fin)) := by
  have hw := y.fin_wrap h
  clear h
  unfold Yr.fin
  obtain ⟨a0, a1, a2, a3, a4, a5, a6⟩ := y
  obtain ⟨i0, i1, i2, i3, i4⟩ := hw
  simp only [Yr.v] at *
  go_enter Try.func171, Try.ntmps171
  go_wp2
  go_ret
  exact ⟨rfl, (by repeat' (first | (with_reducible exact Up.refl _) | (with_reducible assumption) | (with_reducible refine Up.alloc ?_ _) | (with_reducible refine Up.drew ?_) | (with_reducible refine Up.grow ?_ _) | (with_reducible refine Up.setCell ?_ (by (try simp); (try omega)) _)))⟩
theorem i_YEnd (y : Yr) (h : y.Bd) (w : World) : Calls Try.prog 169 #[y.v] w (Ret w (.int .i64 y.fin)) := by
  have hw := y.fin_wrap h
  clear h
  unfold Yr.fin
  obtain ⟨a0, a1, a2, a3, a4, a5, a6⟩ := y
  obtain ⟨i0, i1, i2, i3, i4⟩ := hw
  simp only [Yr.v] at *
  go_enter Try.func169, Try.ntmps169
  go_wp2
  go_ret
  exact ⟨rfl, (by repeat' (first | (with_reducible exact Up.refl _) | (with_reducible assumption) | (with_reducible refine Up.alloc ?_ _) | (with_reducible refine Up.drew ?_) | (with_reducible refine Up.grow ?_ _) | (with_reducible refine Up.setCell ?_ (by (try simp); (try omega)) _)))⟩
/-- The expected interest. -/
def Yr.exp (y : Yr) (r : Int) : Int := (y.a0 + y.a1) * r / 1000
theorem Yr.exp_bd {y : Yr} (h : y.Ok) {r : Int} (h0 : 0 ≤ r) (h1 : r ≤ 200) : 0 ≤ (y.a0 + y.a1) * r ∧ (y.a0 + y.a1) * r ≤ 400000000000000 := by
  unfold Yr.Ok at h
  have a := Int.mul_le_mul (show y.a0 + y.a1 ≤ 2000000000000 by omega) h1 h0 (by omega)
  exact ⟨Int.mul_nonneg (by omega) h0, by omega⟩
theorem Yr.exp_le {y : Yr} (h : y.Ok) {r : Int} (h0 : 0 ≤ r) (h1 : r ≤ 200) : 0 ≤ y.exp r ∧ y.exp r ≤ 400000000000 := by
  have := y.exp_bd h h0 h1
  unfold Yr.exp
  omega
theorem s_Exp18 (y : Yr) (h : y.Ok) (r : Int) (h0 : 0 ≤ r) (h1 : r ≤ 200) (w : World) : Calls Try.prog 172 #[y.v, .int .i64 r] w (Ret w (.int .i64 (y.exp r))) := by
  have hb := Yr.exp_bd h h0 h1
  have he := Yr.exp_le h h0 h1
  have i0 : IntKind.i64.wrap (y.a0 + y.a1) = y.a0 + y.a1 := by unfold Yr.Ok at h; exact IntWalk.i64_in _ (by omega)
  clear h
  unfold Yr.exp at *
  obtain ⟨a0, a1, a2, a3, a4, a5, a6⟩ := y
  simp only [Yr.v] at *
  obtain ⟨p, hp⟩ : ∃ p, (a0 + a1) * r = p := ⟨_, rfl⟩
  rw [hp] at hb he ⊢
  have i1 : IntKind.i64.wrap p = p := IntWalk.i64_in _ (by omega)
  obtain ⟨q, hq⟩ : ∃ q, p / 1000 = q := ⟨_, rfl⟩
  rw [hq] at he ⊢
  have i2 : p.tdiv 1000 = q := by rw [Int.tdiv_eq_ediv_of_nonneg (by omega), hq]
  have i3 : IntKind.i64.wrap q = q := IntWalk.i64_in _ (by omega)
  clear h0 h1 hb he
  go_enter Try.func172, Try.ntmps172
  go_wp2
  go_ret
  exact ⟨rfl, (by repeat' (first | (with_reducible exact Up.refl _) | (with_reducible assumption) | (with_reducible refine Up.alloc ?_ _) | (with_reducible refine Up.drew ?_) | (with_reducible refine Up.grow ?_ _) | (with_reducible refine Up.setCell ?_ (by (try simp); (try omega)) _)))⟩
theorem i_YExp (y : Yr) (h : y.Ok) (r : Int) (h0 : 0 ≤ r) (h1 : r ≤ 200) (w : World) : Calls Try.prog 166 #[y.v, .int .i64 r] w (Ret w (.int .i64 (y.exp r))) := by
  have hb := Yr.exp_bd h h0 h1
  have he := Yr.exp_le h h0 h1
  have i0 : IntKind.i64.wrap (y.a0 + y.a1) = y.a0 + y.a1 := by unfold Yr.Ok at h; exact IntWalk.i64_in _ (by omega)
  clear h
  unfold Yr.exp at *
  obtain ⟨a0, a1, a2, a3, a4, a5, a6⟩ := y
  simp only [Yr.v] at *
  obtain ⟨p, hp⟩ : ∃ p, (a0 + a1) * r = p := ⟨_, rfl⟩
  rw [hp] at hb he ⊢
  have i1 : IntKind.i64.wrap p = p := IntWalk.i64_in _ (by omega)
  obtain ⟨q, hq⟩ : ∃ q, p / 1000 = q := ⟨_, rfl⟩
  rw [hq] at he ⊢
  have i2 : p.tdiv 1000 = q := by rw [Int.tdiv_eq_ediv_of_nonneg (by omega), hq]
  have i3 : IntKind.i64.wrap q = q := IntWalk.i64_in _ (by omega)
  clear h0 h1 hb he
  go_enter Try.func166, Try.ntmps166
  go_wp2
  go_ret
  exact ⟨rfl, (by repeat' (first | (with_reducible exact Up.refl _) | (with_reducible assumption) | (with_reducible refine Up.alloc ?_ _) | (with_reducible refine Up.drew ?_) | (with_reducible refine Up.grow ?_ _) | (with_reducible refine Up.setCell ?_ (by (try simp); (try omega)) _)))⟩
theorem i_EndFund (y : Yr) (hB : y.Bd) (w : World) : Calls Try.prog 46 #[y.v] w (Ret w (.tuple #[.int .i64 (if y.ok then y.fin else 0), .int .i64 (if y.ok then 0 else 1)])) := by
  obtain ⟨b, hb⟩ : ∃ b, y.ok = b := ⟨_, rfl⟩
  obtain ⟨q, hq⟩ : ∃ q, y.fin = q := ⟨_, rfl⟩
  rw [hb, hq]
  obtain ⟨a0, a1, a2, a3, a4, a5, a6⟩ := y
  have HI := fun (w : World) => i_IsYear ⟨a0, a1, a2, a3, a4, a5, a6⟩ w
  have HE := fun (w : World) => i_YEnd ⟨a0, a1, a2, a3, a4, a5, a6⟩ hB w
  rw [hb] at HI
  rw [hq] at HE
  replace HI := Lib.hid HI
  replace HE := Lib.hid HE
  simp only [Yr.v] at *
  clear hb hq hB
  cases b
  all_goals
    simp only [if_true, if_false, Bool.false_eq_true]
    go_enter Try.func46, Try.ntmps46
    go_wp2_with (first | (go_at_call 51; (with_reducible refine (HI.out _).mono ?_); rintro e w' ⟨rfl, hb⟩; first | (obtain ⟨x, rfl⟩ := Grow.on x hb) | (obtain ⟨x, rfl⟩ := Grow.mk' hb)) | (go_at_call 169; (with_reducible refine (HE.out _).mono ?_); rintro e w' ⟨rfl, hb⟩; first | (obtain ⟨x, rfl⟩ := Grow.on x hb) | (obtain ⟨x, rfl⟩ := Grow.mk' hb)) | (go_at_call 142; (with_reducible refine (s_In _ _ _ _).mono ?_); rintro e w' ⟨rfl, rfl⟩) | (go_at_call 186; (with_reducible refine (i_In _ _ _ _).mono ?_); rintro e w' ⟨rfl, rfl⟩) | (go_at_call 222; (with_reducible refine (s_Rate _ _).mono ?_); rintro e w' ⟨rfl, rfl⟩) | (go_at_call 165; (with_reducible refine (i_Rate _ _).mono ?_); rintro e w' ⟨rfl, rfl⟩) | (go_at_call 262; (with_reducible refine (i_Years _ _).mono ?_); rintro e w' ⟨rfl, rfl⟩) | (go_at_call 227; (with_reducible refine (s_Amount6 _ _).mono ?_); rintro e w' ⟨rfl, rfl⟩) | (go_at_call 236; (with_reducible refine (s_Sum7 _ _).mono ?_); rintro e w' ⟨rfl, rfl⟩) | ((first | with_reducible refine wp_region_in x (by kernel_rfl) (by kernel_rfl) ?_ | with_reducible refine wp_region_here (by kernel_rfl) (by kernel_rfl) ?_); (repeat (go_big_quiet_step ((first | (go_at_call 51; with_reducible exact Ret.grow _ (HI.out _)) | (go_at_call 169; with_reducible exact Ret.grow _ (HE.out _)) | (go_at_call 142; with_reducible exact Ret.same _ (s_In _ _ _ _)) | (go_at_call 186; with_reducible exact Ret.same _ (i_In _ _ _ _)) | (go_at_call 222; with_reducible exact Ret.same _ (s_Rate _ _)) | (go_at_call 165; with_reducible exact Ret.same _ (i_Rate _ _)) | (go_at_call 262; with_reducible exact Ret.same _ (i_Years _ _)) | (go_at_call 227; with_reducible exact Ret.same _ (s_Amount6 _ _)) | (go_at_call 236; with_reducible exact Ret.same _ (s_Sum7 _ _)))))); refine wpQuiet_nil ?_; intro w' hw'; obtain ⟨x, rfl⟩ := hw'))
    go_ret2
    exact ⟨rfl, (by repeat' (first | (with_reducible exact Up.refl _) | (with_reducible assumption) | (with_reducible refine Up.alloc ?_ _) | (with_reducible refine Up.drew ?_) | (with_reducible refine Up.grow ?_ _) | (with_reducible refine Up.setCell ?_ (by (try simp); (try omega)) _)))⟩
theorem s_EndFund (y : Yr) (hB : y.Bd) (w : World) : Calls Try.prog 47 #[y.v] w (Ret w (.tuple #[.int .i64 (if y.ok then y.fin else 0), .int .i64 (if y.ok then 0 else 1)])) := by
  obtain ⟨b, hb⟩ : ∃ b, y.ok = b := ⟨_, rfl⟩
  obtain ⟨q, hq⟩ : ∃ q, y.fin = q := ⟨_, rfl⟩
  rw [hb, hq]
  obtain ⟨a0, a1, a2, a3, a4, a5, a6⟩ := y
  have HI := fun (w : World) => s_IsYear ⟨a0, a1, a2, a3, a4, a5, a6⟩ w
  have HE := fun (w : World) => s_End18 ⟨a0, a1, a2, a3, a4, a5, a6⟩ hB w
  rw [hb] at HI
  rw [hq] at HE
  replace HI := Lib.hid HI
  replace HE := Lib.hid HE
  simp only [Yr.v] at *
  clear hb hq hB
  cases b
  all_goals
    simp only [if_true, if_false, Bool.false_eq_true]
    go_enter Try.func47, Try.ntmps47
    go_wp2_with (first | (go_at_call 170; (with_reducible refine (HI.out _).mono ?_); rintro e w' ⟨rfl, hb⟩; first | (obtain ⟨x, rfl⟩ := Grow.on x hb) | (obtain ⟨x, rfl⟩ := Grow.mk' hb)) | (go_at_call 171; (with_reducible refine (HE.out _).mono ?_); rintro e w' ⟨rfl, hb⟩; first | (obtain ⟨x, rfl⟩ := Grow.on x hb) | (obtain ⟨x, rfl⟩ := Grow.mk' hb)) | (go_at_call 142; (with_reducible refine (s_In _ _ _ _).mono ?_); rintro e w' ⟨rfl, rfl⟩) | (go_at_call 186; (with_reducible refine (i_In _ _ _ _).mono ?_); rintro e w' ⟨rfl, rfl⟩) | (go_at_call 222; (with_reducible refine (s_Rate _ _).mono ?_); rintro e w' ⟨rfl, rfl⟩) | (go_at_call 165; (with_reducible refine (i_Rate _ _).mono ?_); rintro e w' ⟨rfl, rfl⟩) | (go_at_call 262; (with_reducible refine (i_Years _ _).mono ?_); rintro e w' ⟨rfl, rfl⟩) | (go_at_call 227; (with_reducible refine (s_Amount6 _ _).mono ?_); rintro e w' ⟨rfl, rfl⟩) | (go_at_call 236; (with_reducible refine (s_Sum7 _ _).mono ?_); rintro e w' ⟨rfl, rfl⟩) | ((first | with_reducible refine wp_region_in x (by kernel_rfl) (by kernel_rfl) ?_ | with_reducible refine wp_region_here (by kernel_rfl) (by kernel_rfl) ?_); (repeat (go_big_quiet_step ((first | (go_at_call 170; with_reducible exact Ret.grow _ (HI.out _)) | (go_at_call 171; with_reducible exact Ret.grow _ (HE.out _)) | (go_at_call 142; with_reducible exact Ret.same _ (s_In _ _ _ _)) | (go_at_call 186; with_reducible exact Ret.same _ (i_In _ _ _ _)) | (go_at_call 222; with_reducible exact Ret.same _ (s_Rate _ _)) | (go_at_call 165; with_reducible exact Ret.same _ (i_Rate _ _)) | (go_at_call 262; with_reducible exact Ret.same _ (i_Years _ _)) | (go_at_call 227; with_reducible exact Ret.same _ (s_Amount6 _ _)) | (go_at_call 236; with_reducible exact Ret.same _ (s_Sum7 _ _)))))); refine wpQuiet_nil ?_; intro w' hw'; obtain ⟨x, rfl⟩ := hw'))
    go_ret2
    exact ⟨rfl, (by repeat' (first | (with_reducible exact Up.refl _) | (with_reducible assumption) | (with_reducible refine Up.alloc ?_ _) | (with_reducible refine Up.drew ?_) | (with_reducible refine Up.grow ?_ _) | (with_reducible refine Up.setCell ?_ (by (try simp); (try omega)) _)))⟩
theorem i_SurplusOf (y : Yr) (hB : y.Bd) (w : World) : Calls Try.prog 44 #[y.v] w (Ret w (.tuple #[.int .i64 (if y.ok then y.fin - y.a6 else 0), .int .i64 (if y.ok then 0 else 1)])) := by
  obtain ⟨b, hb⟩ : ∃ b, y.ok = b := ⟨_, rfl⟩
  obtain ⟨q, hq⟩ : ∃ q, y.fin = q := ⟨_, rfl⟩
  have i9 : IntKind.i64.wrap (q - y.a6) = q - y.a6 := by rw [← hq]; unfold Yr.Bd at hB; unfold Yr.fin; exact IntWalk.i64_in _ (by omega)
  rw [hb, hq]
  obtain ⟨a0, a1, a2, a3, a4, a5, a6⟩ := y
  have HI := fun (w : World) => i_IsYear ⟨a0, a1, a2, a3, a4, a5, a6⟩ w
  have HE := fun (w : World) => i_YEnd ⟨a0, a1, a2, a3, a4, a5, a6⟩ hB w
  rw [hb] at HI
  rw [hq] at HE
  replace HI := Lib.hid HI
  replace HE := Lib.hid HE
  simp only [Yr.v] at *
  clear hb hq hB
  cases b
  all_goals
    simp only [if_true, if_false, Bool.false_eq_true]
    go_enter Try.func44, Try.ntmps44
    go_wp2_with (first | (go_at_call 51; (with_reducible refine (HI.out _).mono ?_); rintro e w' ⟨rfl, hb⟩; first | (obtain ⟨x, rfl⟩ := Grow.on x hb) | (obtain ⟨x, rfl⟩ := Grow.mk' hb)) | (go_at_call 169; (with_reducible refine (HE.out _).mono ?_); rintro e w' ⟨rfl, hb⟩; first | (obtain ⟨x, rfl⟩ := Grow.on x hb) | (obtain ⟨x, rfl⟩ := Grow.mk' hb)) | (go_at_call 142; (with_reducible refine (s_In _ _ _ _).mono ?_); rintro e w' ⟨rfl, rfl⟩) | (go_at_call 186; (with_reducible refine (i_In _ _ _ _).mono ?_); rintro e w' ⟨rfl, rfl⟩) | (go_at_call 222; (with_reducible refine (s_Rate _ _).mono ?_); rintro e w' ⟨rfl, rfl⟩) | (go_at_call 165; (with_reducible refine (i_Rate _ _).mono ?_); rintro e w' ⟨rfl, rfl⟩) | (go_at_call 262; (with_reducible refine (i_Years _ _).mono ?_); rintro e w' ⟨rfl, rfl⟩) | (go_at_call 227; (with_reducible refine (s_Amount6 _ _).mono ?_); rintro e w' ⟨rfl, rfl⟩) | (go_at_call 236; (with_reducible refine (s_Sum7 _ _).mono ?_); rintro e w' ⟨rfl, rfl⟩) | ((first | with_reducible refine wp_region_in x (by kernel_rfl) (by kernel_rfl) ?_ | with_reducible refine wp_region_here (by kernel_rfl) (by kernel_rfl) ?_); (repeat (go_big_quiet_step ((first | (go_at_call 51; with_reducible exact Ret.grow _ (HI.out _)) | (go_at_call 169; with_reducible exact Ret.grow _ (HE.out _)) | (go_at_call 142; with_reducible exact Ret.same _ (s_In _ _ _ _)) | (go_at_call 186; with_reducible exact Ret.same _ (i_In _ _ _ _)) | (go_at_call 222; with_reducible exact Ret.same _ (s_Rate _ _)) | (go_at_call 165; with_reducible exact Ret.same _ (i_Rate _ _)) | (go_at_call 262; with_reducible exact Ret.same _ (i_Years _ _)) | (go_at_call 227; with_reducible exact Ret.same _ (s_Amount6 _ _)) | (go_at_call 236; with_reducible exact Ret.same _ (s_Sum7 _ _)))))); refine wpQuiet_nil ?_; intro w' hw'; obtain ⟨x, rfl⟩ := hw'))
    go_ret2
    exact ⟨rfl, (by repeat' (first | (with_reducible exact Up.refl _) | (with_reducible assumption) | (with_reducible refine Up.alloc ?_ _) | (with_reducible refine Up.drew ?_) | (with_reducible refine Up.grow ?_ _) | (with_reducible refine Up.setCell ?_ (by (try simp); (try omega)) _)))⟩
theorem s_SurplusOf (y : Yr) (hB : y.Bd) (w : World) : Calls Try.prog 45 #[y.v] w (Ret w (.tuple #[.int .i64 (if y.ok then y.fin - y.a6 else 0), .int .i64 (if y.ok then 0 else 1)])) := by
  obtain ⟨b, hb⟩ : ∃ b, y.ok = b := ⟨_, rfl⟩
  obtain ⟨q, hq⟩ : ∃ q, y.fin = q := ⟨_, rfl⟩
  have i9 : IntKind.i64.wrap (q - y.a6) = q - y.a6 := by rw [← hq]; unfold Yr.Bd at hB; unfold Yr.fin; exact IntWalk.i64_in _ (by omega)
  rw [hb, hq]
  obtain ⟨a0, a1, a2, a3, a4, a5, a6⟩ := y
  have HI := fun (w : World) => s_IsYear ⟨a0, a1, a2, a3, a4, a5, a6⟩ w
  have HE := fun (w : World) => s_End18 ⟨a0, a1, a2, a3, a4, a5, a6⟩ hB w
  rw [hb] at HI
  rw [hq] at HE
  replace HI := Lib.hid HI
  replace HE := Lib.hid HE
  simp only [Yr.v] at *
  clear hb hq hB
  cases b
  all_goals
    simp only [if_true, if_false, Bool.false_eq_true]
    go_enter Try.func45, Try.ntmps45
    go_wp2_with (first | (go_at_call 170; (with_reducible refine (HI.out _).mono ?_); rintro e w' ⟨rfl, hb⟩; first | (obtain ⟨x, rfl⟩ := Grow.on x hb) | (obtain ⟨x, rfl⟩ := Grow.mk' hb)) | (go_at_call 171; (with_reducible refine (HE.out _).mono ?_); rintro e w' ⟨rfl, hb⟩; first | (obtain ⟨x, rfl⟩ := Grow.on x hb) | (obtain ⟨x, rfl⟩ := Grow.mk' hb)) | (go_at_call 142; (with_reducible refine (s_In _ _ _ _).mono ?_); rintro e w' ⟨rfl, rfl⟩) | (go_at_call 186; (with_reducible refine (i_In _ _ _ _).mono ?_); rintro e w' ⟨rfl, rfl⟩) | (go_at_call 222; (with_reducible refine (s_Rate _ _).mono ?_); rintro e w' ⟨rfl, rfl⟩) | (go_at_call 165; (with_reducible refine (i_Rate _ _).mono ?_); rintro e w' ⟨rfl, rfl⟩) | (go_at_call 262; (with_reducible refine (i_Years _ _).mono ?_); rintro e w' ⟨rfl, rfl⟩) | (go_at_call 227; (with_reducible refine (s_Amount6 _ _).mono ?_); rintro e w' ⟨rfl, rfl⟩) | (go_at_call 236; (with_reducible refine (s_Sum7 _ _).mono ?_); rintro e w' ⟨rfl, rfl⟩) | ((first | with_reducible refine wp_region_in x (by kernel_rfl) (by kernel_rfl) ?_ | with_reducible refine wp_region_here (by kernel_rfl) (by kernel_rfl) ?_); (repeat (go_big_quiet_step ((first | (go_at_call 170; with_reducible exact Ret.grow _ (HI.out _)) | (go_at_call 171; with_reducible exact Ret.grow _ (HE.out _)) | (go_at_call 142; with_reducible exact Ret.same _ (s_In _ _ _ _)) | (go_at_call 186; with_reducible exact Ret.same _ (i_In _ _ _ _)) | (go_at_call 222; with_reducible exact Ret.same _ (s_Rate _ _)) | (go_at_call 165; with_reducible exact Ret.same _ (i_Rate _ _)) | (go_at_call 262; with_reducible exact Ret.same _ (i_Years _ _)) | (go_at_call 227; with_reducible exact Ret.same _ (s_Amount6 _ _)) | (go_at_call 236; with_reducible exact Ret.same _ (s_Sum7 _ _)))))); refine wpQuiet_nil ?_; intro w' hw'; obtain ⟨x, rfl⟩ := hw'))
    go_ret2
    exact ⟨rfl, (by repeat' (first | (with_reducible exact Up.refl _) | (with_reducible assumption) | (with_reducible refine Up.alloc ?_ _) | (with_reducible refine Up.drew ?_) | (with_reducible refine Up.grow ?_ _) | (with_reducible refine Up.setCell ?_ (by (try simp); (try omega)) _)))⟩
end Go.Proofs.Ytdeoampkbbbleaa
