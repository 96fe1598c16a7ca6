/- Contracts of the program's multiplyDivide, roundUp, priced. Condition: numbers of at least 0, a divisor of at least 1. -/
import Derived.Test.YtdeoampkbbbleaaDiv64
import Derived.Test.YtdeoampkbbbleaaPureB
namespace Go.Proofs.Ytdeoampkbbbleaa
open Go.RowKit Pu

theorem i_MdA (x y c h l : Nat) (c1 : IntKind.u64.wrap (x : Int) = x) (c2 : IntKind.u64.wrap (y : Int) = y) (c3 : IntKind.u64.wrap (c : Int) = c) (hge : c ≤ h)
    (HM : ∀ w : World, Calls Try.prog 264 #[.int .u64 x, .int .u64 y] w fun e w' => e = .returned (.tuple #[.int .u64 h, .int .u64 l]) ∧ w' = w) (w : World) :
    Calls Try.prog 231 #[.int .i64 x, .int .i64 y, .int .i64 c] w (Ret w (.tuple #[.int .i64 0, .int .i64 0, .bool false])) := by
  go_enter Try.func231, Try.ntmps231
  go_wp2_with (go_at_call 264; refine (HM _).mono ?_; rintro e w' ⟨rfl, rfl⟩)
  go_ret3
  exact ⟨rfl, (by repeat' (first | (with_reducible exact Up.refl _) | (with_reducible assumption) | (with_reducible refine Up.alloc ?_ _) | (with_reducible refine Up.drew ?_) | (with_reducible refine Up.grow ?_ _) | (with_reducible refine Up.setCell ?_ (by (try simp); (try omega)) _)))⟩
theorem i_MdB (x y c h l q r : Nat) (c1 : IntKind.u64.wrap (x : Int) = x) (c2 : IntKind.u64.wrap (y : Int) = y) (c3 : IntKind.u64.wrap (c : Int) = c) (hlt : h < c)
    (HM : ∀ w : World, Calls Try.prog 264 #[.int .u64 x, .int .u64 y] w fun e w' => e = .returned (.tuple #[.int .u64 h, .int .u64 l]) ∧ w' = w)
    (HD : ∀ w : World, Calls Try.prog 265 #[.int .u64 h, .int .u64 l, .int .u64 c] w (Ret w (.tuple #[.int .u64 q, .int .u64 r]))) (t : decide ((1000000000000000000 : Int) < (q : Int)) = true) (w : World) :
    Calls Try.prog 231 #[.int .i64 x, .int .i64 y, .int .i64 c] w (Ret w (.tuple #[.int .i64 0, .int .i64 0, .bool false])) := by
  go_enter Try.func231, Try.ntmps231
  go_wp2_with (first | (go_at_call 264; refine (HM _).mono ?_; rintro e w' ⟨rfl, rfl⟩) | (go_at_call 265; refine (HD _).mono ?_; rintro e w' ⟨rfl, hb⟩; first | (obtain ⟨x, rfl⟩ := Grow.on x hb) | (obtain ⟨x, rfl⟩ := Grow.mk' hb)))
  go_ret3
  exact ⟨rfl, (by repeat' (first | (with_reducible exact Up.refl _) | (with_reducible assumption) | (with_reducible refine Up.alloc ?_ _) | (with_reducible refine Up.drew ?_) | (with_reducible refine Up.grow ?_ _) | (with_reducible refine Up.setCell ?_ (by (try simp); (try omega)) _)))⟩
theorem i_MdC (x y c h l q r : Nat) (c1 : IntKind.u64.wrap (x : Int) = x) (c2 : IntKind.u64.wrap (y : Int) = y) (c3 : IntKind.u64.wrap (c : Int) = c) (hlt : h < c)
    (HM : ∀ w : World, Calls Try.prog 264 #[.int .u64 x, .int .u64 y] w fun e w' => e = .returned (.tuple #[.int .u64 h, .int .u64 l]) ∧ w' = w)
    (HD : ∀ w : World, Calls Try.prog 265 #[.int .u64 h, .int .u64 l, .int .u64 c] w (Ret w (.tuple #[.int .u64 q, .int .u64 r]))) (t : decide ((1000000000000000000 : Int) < (q : Int)) = false) (w : World) :
    Calls Try.prog 231 #[.int .i64 x, .int .i64 y, .int .i64 c] w (Ret w (.tuple #[.int .i64 (wrap64 q), .int .i64 (wrap64 r), .bool true])) := by
  go_enter Try.func231, Try.ntmps231
  go_wp2_with (first | (go_at_call 264; refine (HM _).mono ?_; rintro e w' ⟨rfl, rfl⟩) | (go_at_call 265; refine (HD _).mono ?_; rintro e w' ⟨rfl, hb⟩; first | (obtain ⟨x, rfl⟩ := Grow.on x hb) | (obtain ⟨x, rfl⟩ := Grow.mk' hb)))
  go_ret3
  exact ⟨rfl, (by repeat' (first | (with_reducible exact Up.refl _) | (with_reducible assumption) | (with_reducible refine Up.alloc ?_ _) | (with_reducible refine Up.drew ?_) | (with_reducible refine Up.grow ?_ _) | (with_reducible refine Up.setCell ?_ (by (try simp); (try omega)) _)))⟩

/-- The words of the product, and its quotient. -/
theorem md_nums (x y c : Nat) (hc : 0 < c) :
    (c ≤ x * y / 18446744073709551616 → 18446744073709551616 ≤ x * y / c) ∧ x * y / 18446744073709551616 * 18446744073709551616 + x * y % 18446744073709551616 = x * y ∧ x * y % c < c := by
  refine ⟨fun h => ?_, by omega, Nat.mod_lt _ hc⟩
  rw [Nat.le_div_iff_mul_le hc]
  have h1 : c * 18446744073709551616 ≤ x * y / 18446744073709551616 * 18446744073709551616 := Nat.mul_le_mul_right _ h
  omega
theorem qd_nat (x y c : Nat) : qd (x : Int) y c = ((x * y / c : Nat) : Int) := by unfold qd; rw [Int.natCast_ediv, Int.natCast_mul]
theorem rm_nat (x y c : Nat) : rm (x : Int) y c = ((x * y % c : Nat) : Int) := by unfold rm; rw [Int.natCast_emod, Int.natCast_mul]
theorem u64n (x : Nat) (hx : x ≤ 9223372036854775807) : IntKind.u64.wrap (x : Int) = x := by rw [IntKind.wrap_u64]; omega

theorem i_Md (a b c : Int) (ha : 0 ≤ a) (ha2 : a ≤ 9223372036854775807) (hb : 0 ≤ b) (hb2 : b ≤ 9223372036854775807) (hc : 1 ≤ c) (hc2 : c ≤ 9223372036854775807) (hq : qd a b c ≤ 1000000000000000000) (w : World) :
    Calls Try.prog 231 #[.int .i64 a, .int .i64 b, .int .i64 c] w (Ret w (.tuple #[.int .i64 (qd a b c), .int .i64 (rm a b c), .bool true])) := by
  obtain ⟨x, rfl⟩ := Int.eq_ofNat_of_zero_le ha
  obtain ⟨y, rfl⟩ := Int.eq_ofNat_of_zero_le hb
  obtain ⟨z, rfl⟩ := Int.eq_ofNat_of_zero_le (show 0 ≤ c by omega)
  rw [qd_nat] at hq ⊢
  rw [rm_nat]
  obtain ⟨n1, n2, n3⟩ := md_nums x y z (by omega)
  have hlt : x * y / 18446744073709551616 < z := by
    rcases Nat.lt_or_ge (x * y / 18446744073709551616) z with h | h
    · exact h
    · have := n1 h; omega
  have HD : ∀ w : World, Calls Try.prog 265 #[.int .u64 (x * y / 18446744073709551616 : Nat), .int .u64 (x * y % 18446744073709551616 : Nat), .int .u64 z] w (Ret w (.tuple #[.int .u64 (x * y / z : Nat), .int .u64 (x * y % z : Nat)])) := fun w => by
    have h := b_Div64 (x * y / 18446744073709551616) (x * y % 18446744073709551616) z hlt (by omega) (by omega) w
    rw [n2] at h
    exact h
  have HM := fun w => Try.bits_Mul64 x y (by omega) (by omega) w
  generalize x * y / z = q at *
  generalize x * y % z = r at *
  generalize x * y / 18446744073709551616 = h at *
  generalize x * y % 18446744073709551616 = l at *
  have hC := i_MdC x y z h l q r (u64n x (by omega)) (u64n y (by omega)) (u64n z (by omega)) hlt HM HD (by simp; omega) w
  rw [w64 (by omega) (by omega), w64 (by omega) (by omega)] at hC
  exact hC
theorem i_MdBig (a b c : Int) (ha : 0 ≤ a) (ha2 : a ≤ 9223372036854775807) (hb : 0 ≤ b) (hb2 : b ≤ 9223372036854775807) (hc : 1 ≤ c) (hc2 : c ≤ 9223372036854775807) (hq : 1000000000000000000 < qd a b c) (w : World) :
    Calls Try.prog 231 #[.int .i64 a, .int .i64 b, .int .i64 c] w (Ret w (.tuple #[.int .i64 0, .int .i64 0, .bool false])) := by
  obtain ⟨x, rfl⟩ := Int.eq_ofNat_of_zero_le ha
  obtain ⟨y, rfl⟩ := Int.eq_ofNat_of_zero_le hb
  obtain ⟨z, rfl⟩ := Int.eq_ofNat_of_zero_le (show 0 ≤ c by omega)
  rw [qd_nat] at hq
  obtain ⟨n1, n2, n3⟩ := md_nums x y z (by omega)
  have HM := fun w => Try.bits_Mul64 x y (by omega) (by omega) w
  rcases Nat.lt_or_ge (x * y / 18446744073709551616) z with hlt | hge
  · have HD : ∀ w : World, Calls Try.prog 265 #[.int .u64 (x * y / 18446744073709551616 : Nat), .int .u64 (x * y % 18446744073709551616 : Nat), .int .u64 z] w (Ret w (.tuple #[.int .u64 (x * y / z : Nat), .int .u64 (x * y % z : Nat)])) := fun w => by
      have h := b_Div64 (x * y / 18446744073709551616) (x * y % 18446744073709551616) z hlt (by omega) (by omega) w
      rw [n2] at h
      exact h
    generalize x * y / z = q at *
    generalize x * y % z = r at *
    generalize x * y / 18446744073709551616 = h at *
    generalize x * y % 18446744073709551616 = l at *
    exact i_MdB x y z h l q r (u64n x (by omega)) (u64n y (by omega)) (u64n z (by omega)) hlt HM HD (by simp; omega) w
  · exact i_MdA x y z _ _ (u64n x (by omega)) (u64n y (by omega)) (u64n z (by omega)) hge HM w

theorem i_RU (a b c : Int) (ha : 0 ≤ a) (ha2 : a ≤ 9223372036854775807) (hb : 0 ≤ b) (hb2 : b ≤ 9223372036854775807) (hc : 1 ≤ c) (hc2 : c ≤ 9223372036854775807) (hq : qd a b c ≤ 1000000000000000000) (w : World) :
    Calls Try.prog 250 #[.int .i64 a, .int .i64 b, .int .i64 c] w (Ret w (.tuple #[.int .i64 (up a b c), .bool true])) := by
  have HM := Lib.hid (i_Md a b c ha ha2 hb hb2 hc hc2 hq)
  have h0 := qd_nonneg ha hb hc
  have h1 := rm_bd (a := a) (b := b) hc
  have E : Hid (up a b c = qd a b c + min 1 (rm a b c)) := Lib.hid rfl
  generalize up a b c = U at *
  generalize qd a b c = q at *
  generalize rm a b c = r at *
  by_cases hr : 0 < r
  · have e := E.out
    rw [show min 1 r = 1 from by omega] at e
    subst e
    go_enter Try.func250, Try.ntmps250
    go_wp2_with (first | (go_at_call 231; (with_reducible refine (HM.out _).mono ?_); rintro e w' ⟨rfl, hb⟩; first | (obtain ⟨x, rfl⟩ := Grow.on x hb) | (obtain ⟨x, rfl⟩ := Grow.mk' hb)) | (go_at_call 142; (with_reducible refine (s_In _ _ _ _).mono ?_); rintro e w' ⟨rfl, rfl⟩) | (go_at_call 186; (with_reducible refine (i_In _ _ _ _).mono ?_); rintro e w' ⟨rfl, rfl⟩) | (go_at_call 222; (with_reducible refine (s_Rate _ _).mono ?_); rintro e w' ⟨rfl, rfl⟩) | (go_at_call 165; (with_reducible refine (i_Rate _ _).mono ?_); rintro e w' ⟨rfl, rfl⟩) | (go_at_call 262; (with_reducible refine (i_Years _ _).mono ?_); rintro e w' ⟨rfl, rfl⟩) | (go_at_call 227; (with_reducible refine (s_Amount6 _ _).mono ?_); rintro e w' ⟨rfl, rfl⟩) | (go_at_call 236; (with_reducible refine (s_Sum7 _ _).mono ?_); rintro e w' ⟨rfl, rfl⟩) | ((first | with_reducible refine wp_region_in x (by kernel_rfl) (by kernel_rfl) ?_ | with_reducible refine wp_region_here (by kernel_rfl) (by kernel_rfl) ?_); (repeat (go_big_quiet_step ((first | (go_at_call 231; with_reducible exact Ret.grow _ (HM.out _)) | (go_at_call 142; with_reducible exact Ret.same _ (s_In _ _ _ _)) | (go_at_call 186; with_reducible exact Ret.same _ (i_In _ _ _ _)) | (go_at_call 222; with_reducible exact Ret.same _ (s_Rate _ _)) | (go_at_call 165; with_reducible exact Ret.same _ (i_Rate _ _)) | (go_at_call 262; with_reducible exact Ret.same _ (i_Years _ _)) | (go_at_call 227; with_reducible exact Ret.same _ (s_Amount6 _ _)) | (go_at_call 236; with_reducible exact Ret.same _ (s_Sum7 _ _)))))); refine wpQuiet_nil ?_; intro w' hw'; obtain ⟨x, rfl⟩ := hw'))
    go_ret2
    exact ⟨rfl, (by repeat' (first | (with_reducible exact Up.refl _) | (with_reducible assumption) | (with_reducible refine Up.alloc ?_ _) | (with_reducible refine Up.drew ?_) | (with_reducible refine Up.grow ?_ _) | (with_reducible refine Up.setCell ?_ (by (try simp); (try omega)) _)))⟩
  · have e := E.out
    rw [show min 1 r = 0 from by omega, Int.add_zero] at e
    subst e
    go_enter Try.func250, Try.ntmps250
    go_wp2_with (first | (go_at_call 231; (with_reducible refine (HM.out _).mono ?_); rintro e w' ⟨rfl, hb⟩; first | (obtain ⟨x, rfl⟩ := Grow.on x hb) | (obtain ⟨x, rfl⟩ := Grow.mk' hb)) | (go_at_call 142; (with_reducible refine (s_In _ _ _ _).mono ?_); rintro e w' ⟨rfl, rfl⟩) | (go_at_call 186; (with_reducible refine (i_In _ _ _ _).mono ?_); rintro e w' ⟨rfl, rfl⟩) | (go_at_call 222; (with_reducible refine (s_Rate _ _).mono ?_); rintro e w' ⟨rfl, rfl⟩) | (go_at_call 165; (with_reducible refine (i_Rate _ _).mono ?_); rintro e w' ⟨rfl, rfl⟩) | (go_at_call 262; (with_reducible refine (i_Years _ _).mono ?_); rintro e w' ⟨rfl, rfl⟩) | (go_at_call 227; (with_reducible refine (s_Amount6 _ _).mono ?_); rintro e w' ⟨rfl, rfl⟩) | (go_at_call 236; (with_reducible refine (s_Sum7 _ _).mono ?_); rintro e w' ⟨rfl, rfl⟩) | ((first | with_reducible refine wp_region_in x (by kernel_rfl) (by kernel_rfl) ?_ | with_reducible refine wp_region_here (by kernel_rfl) (by kernel_rfl) ?_); (repeat (go_big_quiet_step ((first | (go_at_call 231; with_reducible exact Ret.grow _ (HM.out _)) | (go_at_call 142; with_reducible exact Ret.same _ (s_In _ _ _ _)) | (go_at_call 186; with_reducible exact Ret.same _ (i_In _ _ _ _)) | (go_at_call 222; with_reducible exact Ret.same _ (s_Rate _ _)) | (go_at_call 165; with_reducible exact Ret.same _ (i_Rate _ _)) | (go_at_call 262; with_reducible exact Ret.same _ (i_Years _ _)) | (go_at_call 227; with_reducible exact Ret.same _ (s_Amount6 _ _)) | (go_at_call 236; with_reducible exact Ret.same _ (s_Sum7 _ _)))))); refine wpQuiet_nil ?_; intro w' hw'; obtain ⟨x, rfl⟩ := hw'))
    go_ret2
    exact ⟨rfl, (by repeat' (first | (with_reducible exact Up.refl _) | (with_reducible assumption) | (with_reducible refine Up.alloc ?_ _) | (with_reducible refine Up.drew ?_) | (with_reducible refine Up.grow ?_ _) | (with_reducible refine Up.setCell ?_ (by (try simp); (try omega)) _)))⟩
theorem i_Priced (a b c : Int) (ha : 0 ≤ a) (ha2 : a ≤ 9223372036854775807) (hb : 0 ≤ b) (hb2 : b ≤ 9223372036854775807) (hc : 1 ≤ c) (hc2 : c ≤ 9223372036854775807) (hq : qd a b c ≤ 1000000000000000000) (w : World) :
    Calls Try.prog 159 #[.int .i64 a, .int .i64 b, .int .i64 c] w (Ret w (.int .i64 (up a b c))) := by
  have HM := Lib.hid (i_RU a b c ha ha2 hb hb2 hc hc2 hq)
  generalize up a b c = U at *
  clear hq
  go_enter Try.func159, Try.ntmps159
  go_wp2_with (first | (go_at_call 250; (with_reducible refine (HM.out _).mono ?_); rintro e w' ⟨rfl, hb⟩; first | (obtain ⟨x, rfl⟩ := Grow.on x hb) | (obtain ⟨x, rfl⟩ := Grow.mk' hb)) | (go_at_call 142; (with_reducible refine (s_In _ _ _ _).mono ?_); rintro e w' ⟨rfl, rfl⟩) | (go_at_call 186; (with_reducible refine (i_In _ _ _ _).mono ?_); rintro e w' ⟨rfl, rfl⟩) | (go_at_call 222; (with_reducible refine (s_Rate _ _).mono ?_); rintro e w' ⟨rfl, rfl⟩) | (go_at_call 165; (with_reducible refine (i_Rate _ _).mono ?_); rintro e w' ⟨rfl, rfl⟩) | (go_at_call 262; (with_reducible refine (i_Years _ _).mono ?_); rintro e w' ⟨rfl, rfl⟩) | (go_at_call 227; (with_reducible refine (s_Amount6 _ _).mono ?_); rintro e w' ⟨rfl, rfl⟩) | (go_at_call 236; (with_reducible refine (s_Sum7 _ _).mono ?_); rintro e w' ⟨rfl, rfl⟩) | ((first | with_reducible refine wp_region_in x (by kernel_rfl) (by kernel_rfl) ?_ | with_reducible refine wp_region_here (by kernel_rfl) (by kernel_rfl) ?_); (repeat (go_big_quiet_step ((first | (go_at_call 250; with_reducible exact Ret.grow _ (HM.out _)) | (go_at_call 142; with_reducible exact Ret.same _ (s_In _ _ _ _)) | (go_at_call 186; with_reducible exact Ret.same _ (i_In _ _ _ _)) | (go_at_call 222; with_reducible exact Ret.same _ (s_Rate _ _)) | (go_at_call 165; with_reducible exact Ret.same _ (i_Rate _ _)) | (go_at_call 262; with_reducible exact Ret.same _ (i_Years _ _)) | (go_at_call 227; with_reducible exact Ret.same _ (s_Amount6 _ _)) | (go_at_call 236; with_reducible exact Ret.same _ (s_Sum7 _ _)))))); refine wpQuiet_nil ?_; intro w' hw'; obtain ⟨x, rfl⟩ := hw'))
  go_ret
  exact ⟨rfl, (by repeat' (first | (with_reducible exact Up.refl _) | (with_reducible assumption) | (with_reducible refine Up.alloc ?_ _) | (with_reducible refine Up.drew ?_) | (with_reducible refine Up.grow ?_ _) | (with_reducible refine Up.setCell ?_ (by (try simp); (try omega)) _)))⟩
end Go.Proofs.Ytdeoampkbbbleaa
