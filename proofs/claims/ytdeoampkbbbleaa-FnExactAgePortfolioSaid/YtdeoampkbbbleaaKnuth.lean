/- The plain arithmetic under math/bits.Div64: one digit of the long division by halves of words. No program in sight. Conditions: those of Dig. -/
import GoSem.Claim
namespace Go.Proofs.Ytdeoampkbbbleaa.Pu

/-- The next digit of the long division of u, u1 by y1, y0 (to the base b): its conditions. -/
structure Dig (b y1 y0 u u1 : Nat) : Prop where
  pos : 0 < b
  big : b ≤ 2 * y1
  y0lt : y0 < b
  u1lt : u1 < b
  ult : u < y1 * b + y0

/-- The digit. -/
def dg (b y1 y0 u u1 : Nat) : Nat := (u * b + u1) / (y1 * b + y0)

section
set_option linter.unusedSectionVars false
variable {b y1 y0 u u1 : Nat} (h : Dig b y1 y0 u u1)
include h

theorem Dig.ypos : 0 < y1 * b + y0 := Nat.lt_of_le_of_lt (Nat.zero_le u) h.ult
theorem Dig.y1pos : 0 < y1 := by have := h.pos; have := h.big; omega

theorem Dig.test {q r : Nat} (e : q * y1 + r = u) : dg b y1 y0 u u1 < q ↔ r * b + u1 < q * y0 := by
  unfold dg
  rw [Nat.div_lt_iff_lt_mul h.ypos, ← e, Nat.add_mul, Nat.mul_add, Nat.mul_assoc]
  omega
theorem Dig.lt : dg b y1 y0 u u1 < b := by
  unfold dg
  rw [Nat.div_lt_iff_lt_mul h.ypos]
  have h1 : (u + 1) * b ≤ (y1 * b + y0) * b := Nat.mul_le_mul_right b h.ult
  rw [Nat.add_mul] at h1
  rw [Nat.mul_comm b]
  have := h.u1lt
  omega
theorem Dig.start : dg b y1 y0 u u1 ≤ u / y1 ∧ u / y1 ≤ b + 1 := by
  constructor
  · rw [Nat.le_div_iff_mul_le h.y1pos]
    have h1 : dg b y1 y0 u u1 * (y1 * b + y0) ≤ u * b + u1 := Nat.div_mul_le_self _ _
    generalize dg b y1 y0 u u1 = d at *
    rw [Nat.mul_add, ← Nat.mul_assoc] at h1
    have h2 : d * y1 * b < (u + 1) * b := by rw [Nat.add_mul]; have := h.u1lt; omega
    have := Nat.lt_of_mul_lt_mul_right h2
    omega
  · have h1 : u / y1 < b + 2 := by
      rw [Nat.div_lt_iff_lt_mul h.y1pos, Nat.add_mul]
      have h1 := h.ult; have h2 := h.y0lt; have h3 := h.big
      rw [Nat.mul_comm y1 b] at h1
      omega
    omega
theorem Dig.stop {q r : Nat} (e : q * y1 + r = u) (hr : b ≤ r) (hq : q ≤ b) : q ≤ dg b y1 y0 u u1 := by
  refine Nat.le_of_not_lt fun hlt => ?_
  have h1 := (h.test e).1 hlt
  have h2 : q * y0 ≤ b * b := Nat.mul_le_mul hq (Nat.le_of_lt h.y0lt)
  have h3 : b * b ≤ r * b := Nat.mul_le_mul_right b hr
  omega
theorem Dig.rest : dg b y1 y0 u u1 * (y1 * b + y0) + (u * b + u1) % (y1 * b + y0) = u * b + u1 := by
  unfold dg; rw [Nat.mul_comm]; exact Nat.div_add_mod _ _
end

/-- Two digits make the quotient. -/
theorem two_digits (b Y u u1 u0 : Nat) (hY : 0 < Y) :
    ((u * b + u1) * b + u0) / Y = (u * b + u1) / Y * b + ((u * b + u1) % Y * b + u0) / Y ∧ ((u * b + u1) * b + u0) % Y = ((u * b + u1) % Y * b + u0) % Y := by
  have e := Nat.div_add_mod (u * b + u1) Y
  generalize (u * b + u1) / Y = q at *
  generalize (u * b + u1) % Y = r at *
  rw [← e, show (Y * q + r) * b + u0 = (r * b + u0) + Y * (q * b) from by rw [Nat.add_mul, Nat.mul_assoc]; omega]
  rw [Nat.add_mul_div_left _ _ hY, Nat.add_mul_mod_self_left]
  exact ⟨by omega, rfl⟩

/-- Shifted by s, quotient and rest. -/
theorem shifted (p n y : Nat) (hp : 0 < p) (_hy : 0 < y) : (n * p) / (y * p) = n / y ∧ (n * p) % (y * p) / p = n % y := by
  refine ⟨Nat.mul_div_mul_right _ _ hp, ?_⟩
  rw [Nat.mul_mod_mul_right]
  exact Nat.mul_div_cancel _ hp

/-- All numbers of the long division of hi, lo by y, shifted by s. -/
theorem div64_nums (hi lo y s : Nat) (hs : s ≤ 64) (hhi : hi < y) (hlo : lo < 18446744073709551616) (h1 : 9223372036854775808 ≤ y * 2 ^ s) (h2 : y * 2 ^ s < 18446744073709551616) :
    ∃ Y y1 y0 u32 u10 u1 u0 R1 R0 : Nat, Y = y * 2 ^ s ∧ Y = y1 * 4294967296 + y0 ∧ Y < 18446744073709551616 ∧ Dig 4294967296 y1 y0 u32 u1 ∧ Dig 4294967296 y1 y0 R1 u0 ∧
      u32 = hi * 2 ^ s + lo / 2 ^ (64 - s) ∧ hi * 2 ^ s < 18446744073709551616 ∧ lo / 2 ^ (64 - s) < 2 ^ s ∧ u10 = lo * 2 ^ s % 18446744073709551616 ∧ u10 = u1 * 4294967296 + u0 ∧
      dg 4294967296 y1 y0 u32 u1 * Y + R1 = u32 * 4294967296 + u1 ∧ R1 < Y ∧ dg 4294967296 y1 y0 R1 u0 * Y + R0 = R1 * 4294967296 + u0 ∧ R0 < Y ∧
      dg 4294967296 y1 y0 u32 u1 * 4294967296 + dg 4294967296 y1 y0 R1 u0 = (hi * 18446744073709551616 + lo) / y ∧ R0 / 2 ^ s = (hi * 18446744073709551616 + lo) % y := by
  have hp : 0 < 2 ^ s := Nat.two_pow_pos s
  have hpp : 2 ^ (64 - s) * 2 ^ s = 18446744073709551616 := by rw [← Nat.pow_add, show 64 - s + s = 64 from by omega]
  have hq : 0 < 2 ^ (64 - s) := Nat.two_pow_pos _
  have a1 : hi * 2 ^ s < y * 2 ^ s := Nat.mul_lt_mul_of_pos_right hhi hp
  have a2 : lo / 2 ^ (64 - s) < 2 ^ s := by rw [Nat.div_lt_iff_lt_mul hq, Nat.mul_comm, hpp]; exact hlo
  have a3 : lo * 2 ^ s = lo / 2 ^ (64 - s) * 18446744073709551616 + lo * 2 ^ s % 18446744073709551616 := by
    have e := Nat.div_add_mod (lo * 2 ^ s) 18446744073709551616
    have e2 : lo * 2 ^ s / 18446744073709551616 = lo / 2 ^ (64 - s) := by rw [← hpp]; exact Nat.mul_div_mul_right _ _ hp
    rw [e2] at e; omega
  have a4 : (hi * 18446744073709551616 + lo) * 2 ^ s = (hi * 2 ^ s + lo / 2 ^ (64 - s)) * 18446744073709551616 + lo * 2 ^ s % 18446744073709551616 := by
    rw [Nat.add_mul, Nat.mul_right_comm, Nat.add_mul]; omega
  have hsh := shifted (2 ^ s) (hi * 18446744073709551616 + lo) y hp (by omega)
  rw [a4] at hsh
  have a5 : (hi * 18446744073709551616 + lo) * 2 ^ s < y * 2 ^ s * 18446744073709551616 := by
    have : (hi * 18446744073709551616 + lo) * 2 ^ s < (y * 18446744073709551616) * 2 ^ s := Nat.mul_lt_mul_of_pos_right (by omega) hp
    rwa [Nat.mul_right_comm] at this
  rw [a4] at a5
  have b0 : lo * 2 ^ s % 18446744073709551616 < 18446744073709551616 := Nat.mod_lt _ (by omega)
  generalize lo * 2 ^ s % 18446744073709551616 = u10 at *
  have a6 : hi * 2 ^ s + lo / 2 ^ (64 - s) < y * 2 ^ s := by omega
  have a7 : hi * 2 ^ s < 18446744073709551616 := by omega
  generalize hi * 2 ^ s + lo / 2 ^ (64 - s) = u32 at *
  generalize hY : y * 2 ^ s = Y at *
  have bY : Y = Y / 4294967296 * 4294967296 + Y % 4294967296 := by omega
  have bU : u10 = u10 / 4294967296 * 4294967296 + u10 % 4294967296 := by omega
  have g1 : Dig 4294967296 (Y / 4294967296) (Y % 4294967296) u32 (u10 / 4294967296) := ⟨by omega, by omega, by omega, by omega, by omega⟩
  have hYp : 0 < Y := by omega
  have r1 : (u32 * 4294967296 + u10 / 4294967296) % Y < Y := Nat.mod_lt _ hYp
  have g2 : Dig 4294967296 (Y / 4294967296) (Y % 4294967296) ((u32 * 4294967296 + u10 / 4294967296) % Y) (u10 % 4294967296) := ⟨by omega, by omega, by omega, by omega, by omega⟩
  have t := two_digits 4294967296 Y u32 (u10 / 4294967296) (u10 % 4294967296) hYp
  have s1 := g1.rest
  have s2 := g2.rest
  have d1 : dg 4294967296 (Y / 4294967296) (Y % 4294967296) u32 (u10 / 4294967296) = (u32 * 4294967296 + u10 / 4294967296) / Y := by unfold dg; rw [← bY]
  have d2 : dg 4294967296 (Y / 4294967296) (Y % 4294967296) ((u32 * 4294967296 + u10 / 4294967296) % Y) (u10 % 4294967296) = ((u32 * 4294967296 + u10 / 4294967296) % Y * 4294967296 + u10 % 4294967296) / Y := by unfold dg; rw [← bY]
  rw [← bY] at s1 s2
  have e : (u32 * 4294967296 + u10 / 4294967296) * 4294967296 + u10 % 4294967296 = u32 * 18446744073709551616 + u10 := by omega
  rw [e] at t
  refine ⟨Y, Y / 4294967296, Y % 4294967296, u32, u10, u10 / 4294967296, u10 % 4294967296, (u32 * 4294967296 + u10 / 4294967296) % Y, ((u32 * 4294967296 + u10 / 4294967296) % Y * 4294967296 + u10 % 4294967296) % Y,
    rfl, bY, h2, g1, g2, rfl, a7, a2, rfl, bU, s1, r1, s2, Nat.mod_lt _ hYp, ?_, ?_⟩
  · rw [d1, d2, ← hsh.1, t.1]
  · rw [← hsh.2, t.2]
end Go.Proofs.Ytdeoampkbbbleaa.Pu
