/- Contract of math/bits.Div64. Condition: the high word is less than the divisor. -/
import Derived.Test.YtdeoampkbbbleaaTabs
import Derived.Test.YtdeoampkbbbleaaKnuth
import Derived.Test.YtdeoampkbbbleaaShelf
import Derived.Laws.Bits64b
import Derived.Lib.ItoaNum
namespace Go.Proofs.Ytdeoampkbbbleaa
open Go.RowKit Pu

/-- The shift that makes the divisor's first bit one. -/
theorem lead (y : Nat) (h0 : 0 < y) (hy : y < 18446744073709551616) : ∃ s : Nat, s ≤ 64 ∧ (64 - (Lib.bitLen y : Int)) = s ∧ 9223372036854775808 ≤ y * 2 ^ s ∧ y * 2 ^ s < 18446744073709551616 := by
  obtain ⟨h1, h2, h3⟩ := Lib.bitLenAux_bounds 64 y (by omega) (by omega)
  have h4 : Lib.bitLenAux 64 y ≤ 64 := Lib.bitLenAux_le 64 y 64 (by omega)
  show ∃ s : Nat, s ≤ 64 ∧ (64 - (Lib.bitLenAux 64 y : Int)) = s ∧ _
  generalize Lib.bitLenAux 64 y = L at *
  have hp : 0 < 2 ^ (64 - L) := Nat.two_pow_pos _
  have e1 : 2 ^ (L - 1) * 2 ^ (64 - L) = 9223372036854775808 := by rw [← Nat.pow_add, show L - 1 + (64 - L) = 63 from by omega]
  have e2 : 2 ^ L * 2 ^ (64 - L) = 18446744073709551616 := by rw [← Nat.pow_add, show L + (64 - L) = 64 from by omega]
  refine ⟨64 - L, by omega, by omega, ?_, ?_⟩
  · rw [← e1]; exact Nat.mul_le_mul_right _ h2
  · rw [← e2]; exact Nat.mul_lt_mul_of_pos_right h3 hp

theorem andN (a : Nat) (ha : a < 18446744073709551616) : bits .and .u64 (a : Int) 4294967295 = ((a % 4294967296 : Nat) : Int) := by
  have h := bits_and_u64_nat a 4294967295 ha (by omega)
  have e : a &&& 4294967295 = a % 4294967296 := Nat.and_two_pow_sub_one_eq_mod a 32
  rw [e] at h
  exact h
theorem orN (a b s : Nat) (ha : a * 2 ^ s < 18446744073709551616) (hb : b < 2 ^ s) (hb2 : b < 18446744073709551616) : bits .or .u64 ((a * 2 ^ s : Nat) : Int) (b : Int) = ((a * 2 ^ s + b : Nat) : Int) := by
  rw [bits_or_u64_nat _ _ ha hb2, ← Nat.shiftLeft_eq, Nat.shiftLeft_add_eq_or_of_lt hb]
theorem wrapU (a : Nat) (ha : a < 18446744073709551616) : IntKind.u64.wrap (a : Int) = (a : Int) := by rw [IntKind.wrap_u64]; omega

theorem b_Div64a (lo y q : Nat) (i0 : ((y : Int) == 0) = false) (i1 : IntKind.u64.wrap ((lo : Int) / y) = (q : Int)) (hy : 0 < y) (w : World) :
    Calls Try.prog 265 #[.int .u64 0, .int .u64 lo, .int .u64 y] w (Ret w (.tuple #[.int .u64 q, .int .u64 ((lo : Int) % y)])) := by
  go_enter Try.func265, Try.ntmps265
  go_wp2_with ((first | with_reducible refine wp_region_in x (by kernel_rfl) (by kernel_rfl) ?_ | with_reducible refine wp_region_here (by kernel_rfl) (by kernel_rfl) ?_); (repeat (go_big_quiet_step ((fail)))); refine wpQuiet_nil ?_; intro w' hw'; obtain ⟨x, rfl⟩ := hw')
  go_ret2
  exact ⟨rfl, (by repeat' (first | (with_reducible exact Up.refl _) | (with_reducible assumption) | (with_reducible refine Up.alloc ?_ _) | (with_reducible refine Up.drew ?_) | (with_reducible refine Up.grow ?_ _) | (with_reducible refine Up.setCell ?_ (by (try simp); (try omega)) _)))⟩

end Go.Proofs.Ytdeoampkbbbleaa
