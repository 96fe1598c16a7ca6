/- Contract of math/bits.Div64. Condition: the high word is less than the divisor. -/
import Derived.Test.YtdeoampkbbbleaaDiv64a
namespace Go.Proofs.Ytdeoampkbbbleaa
open Go.RowKit Pu

theorem mulW (a b : Nat) (ha : a < 4294967296) (hb : b < 4294967296) : IntKind.u64.wrap ((a : Int) * b) = ((a * b : Nat) : Int) := by
  rw [← Int.natCast_mul]
  refine wrapU _ ?_
  have h := Nat.mul_le_mul (Nat.le_sub_one_of_lt ha) (Nat.le_sub_one_of_lt hb)
  exact Nat.lt_of_le_of_lt h (by decide)

/-- What the digit d of u, u1 is told by. -/
structure DigAt (y1 y0 u u1 d : Nat) : Prop where
  y1p : 0 < y1
  y1b : y1 < 4294967296
  y0b : y0 < 4294967296
  u1b : u1 < 4294967296
  db : d < 4294967296
  test : ∀ q r, q * y1 + r = u → (d < q ↔ r * 4294967296 + u1 < q * y0)
  stop : ∀ q r, q * y1 + r = u → 4294967296 ≤ r → q ≤ 4294967296 → q ≤ d
/-- A guess of the digit, not too low. -/
structure Guess (y1 u d q r : Nat) : Prop where
  e : q * y1 + r = u
  lo : d ≤ q
  hi : q ≤ 4294967297
  rb : r < 4294967296

section
variable {y1 y0 u u1 d q r : Nat} (D : DigAt y1 y0 u u1 d) (G : Guess y1 u d q r)
include D G
theorem round_down (h : d < q) : ∃ qm rp : Nat, IntKind.u64.wrap ((q : Int) - 1) = qm ∧ IntKind.u64.wrap ((r : Int) + y1) = rp ∧ qm < q ∧ (4294967296 ≤ rp → qm = d) ∧ (rp < 4294967296 → Guess y1 u d qm rp) := by
  have h1 := D.y1b; have h2 := G.rb; have h3 := G.hi
  have e : (q - 1) * y1 + (r + y1) = u := by
    rw [← G.e, Nat.sub_mul, Nat.one_mul]
    have : y1 ≤ q * y1 := Nat.le_mul_of_pos_left _ (by omega)
    omega
  refine ⟨q - 1, r + y1, ?_, ?_, by omega, fun h4 => ?_, fun h4 => ⟨e, by omega, by omega, h4⟩⟩
  · rw [IntKind.wrap_u64]; omega
  · rw [IntKind.wrap_u64]; omega
  · have := D.stop _ _ e h4 (by omega); omega
theorem round_test (hq : q < 4294967296) : ∃ P B1 B2 : Nat, IntKind.u64.wrap ((q : Int) * y0) = P ∧ IntKind.u64.wrap (4294967296 * (r : Int)) = B1 ∧ IntKind.u64.wrap ((B1 : Int) + u1) = B2 ∧ (d < q ↔ B2 < P) := by
  have h1 := D.u1b; have h2 := G.rb; have h3 := D.y0b
  refine ⟨q * y0, 4294967296 * r, 4294967296 * r + u1, mulW q y0 hq h3, ?_, ?_, ?_⟩
  · rw [IntKind.wrap_u64]; omega
  · rw [IntKind.wrap_u64]; omega
  · have := D.test q r G.e; omega
end
theorem dec_true' {q : Nat} (h : 4294967296 ≤ q) : decide ((4294967296 : Int) ≤ (q : Int)) = true := by simp; omega
theorem dec_false' {q : Nat} (h : ¬ 4294967296 ≤ q) : decide ((4294967296 : Int) ≤ (q : Int)) = false := by simp; omega


set_option maxRecDepth 100000 in
set_option maxHeartbeats 2000000 in
theorem b_Div64b (hi lo y s Y y1 y0 u32 v32 w32 u10 u1 u0 R1 R0 d1 d0 q10 p10 r10 q20 p20 r20 a1 a2 a3 c1 c2 c3 e1 e2 : Nat) (hs : s ≤ 64) (hyy : ((y : Int) == 0) = false) (hlt : hi < y) (hz0 : ((hi : Int) == 0) = false) (HL : ∀ w : World, Calls Try.prog 269 #[.int .u64 y] w fun e w' => e = .returned (.int .i64 s) ∧ w' = w)
    (m1 : IntKind.u64.wrap ((y : Int) * 2 ^ s) = Y) (m2 : (Y : Int) / 4294967296 = y1) (m3 : bits .and .u64 (Y : Int) 4294967295 = y0) (m4 : IntKind.u64.wrap ((hi : Int) * 2 ^ s) = v32) (m5 : (lo : Int) / 2 ^ (64 - s) = w32)
    (m6 : bits .or .u64 (v32 : Int) w32 = u32) (m7 : IntKind.u64.wrap ((lo : Int) * 2 ^ s) = u10) (m8 : (u10 : Int) / 4294967296 = u1) (m9 : bits .and .u64 (u10 : Int) 4294967295 = u0)
    (hy1 : 0 < y1) (D1 : Hid (DigAt y1 y0 u32 u1 d1)) (D2 : Hid (DigAt y1 y0 R1 u0 d0))
    (m10 : IntKind.u64.wrap ((u32 : Int) / y1) = q10) (m11 : IntKind.u64.wrap ((q10 : Int) * y1) = p10) (m12 : IntKind.u64.wrap ((u32 : Int) - p10) = r10) (S1 : Hid (Guess y1 u32 d1 q10 r10))
    (n1 : IntKind.u64.wrap ((u32 : Int) * 4294967296) = a1) (n2 : IntKind.u64.wrap ((a1 : Int) + u1) = a2) (n3 : IntKind.u64.wrap ((d1 : Int) * Y) = a3) (n4 : IntKind.u64.wrap ((a2 : Int) - a3) = R1)
    (m20 : IntKind.u64.wrap ((R1 : Int) / y1) = q20) (m21 : IntKind.u64.wrap ((q20 : Int) * y1) = p20) (m22 : IntKind.u64.wrap ((R1 : Int) - p20) = r20) (S2 : Hid (Guess y1 R1 d0 q20 r20))
    (b1 : IntKind.u64.wrap ((R1 : Int) * 4294967296) = c1) (b2 : IntKind.u64.wrap ((c1 : Int) + u0) = c2) (b3 : IntKind.u64.wrap ((d0 : Int) * Y) = c3) (b4 : IntKind.u64.wrap ((c2 : Int) - c3) = R0)
    (f1 : IntKind.u64.wrap ((d1 : Int) * 4294967296) = e1) (f2 : IntKind.u64.wrap ((e1 : Int) + d0) = e2) (w : World) :
    Calls Try.prog 265 #[.int .u64 hi, .int .u64 lo, .int .u64 y] w (Ret w (.tuple #[.int .u64 e2, .int .u64 ((R0 : Int) / 2 ^ s)])) := by
  go_enter Try.func265, Try.ntmps265
  go_wp2_with (go_at_call 269; refine (HL _).mono ?_; rintro e w' ⟨rfl, rfl⟩)
  go_loop [15, 16] (fun q r => ∃ qh rh : Nat, Hid (Guess y1 u32 d1 qh rh) ∧ q = .int .u64 qh ∧ r = .int .u64 rh) (fun q _ => (intOf q).toNat)
  case atStart => exact ⟨q10, r10, S1, rfl, rfl⟩
  case round =>
    obtain ⟨qh, rh, G, rfl, rfl⟩ := hrel
    by_cases hgt : d1 < qh
    · obtain ⟨qm, rp, w1, w2, hlt, hs1, hs2⟩ := round_down D1.out G.out hgt
      have HS1 := Lib.hid hs1
      have HS2 := Lib.hid hs2
      clear hs1 hs2
      by_cases hbig : 4294967296 ≤ qh
      · have t1 := dec_true' hbig
        clear hbig
        by_cases hbr : 4294967296 ≤ rp
        · obtain rfl := HS1.out hbr
          have t2 := dec_true' hbr
          clear hbr
          go_wp2
          clear t1 t2 w1 w2 hgt hlt
          go_loop [18, 16] (fun q r => ∃ qh rh : Nat, Hid (Guess y1 R1 d0 qh rh) ∧ q = .int .u64 qh ∧ r = .int .u64 rh) (fun q _ => (intOf q).toNat)
          case atStart => exact ⟨q20, r20, S2, rfl, rfl⟩
          case round =>
            obtain ⟨qh, rh, G, rfl, rfl⟩ := hrel
            by_cases hgt : d0 < qh
            · obtain ⟨qm, rp, w1, w2, hlt, hs1, hs2⟩ := round_down D2.out G.out hgt
              have HS1 := Lib.hid hs1
              have HS2 := Lib.hid hs2
              clear hs1 hs2
              by_cases hbig : 4294967296 ≤ qh
              · have t1 := dec_true' hbig
                clear hbig
                by_cases hbr : 4294967296 ≤ rp
                · obtain rfl := HS1.out hbr
                  have t2 := dec_true' hbr
                  clear hbr
                  go_wp2
                  go_ret2
                  exact ⟨rfl, (by repeat' (first | (with_reducible exact Up.refl _) | (with_reducible assumption) | (with_reducible refine Up.alloc ?_ _) | (with_reducible refine Up.drew ?_) | (with_reducible refine Up.grow ?_ _) | (with_reducible refine Up.setCell ?_ (by (try simp); (try omega)) _)))⟩
                · have t2 := dec_false' hbr
                  have HG := Lib.hid (HS2.out (by omega))
                  clear hbr
                  go_wp2
                  go_round
                  case rel => exact ⟨qm, rp, HG, rfl, rfl⟩
                  case measure => simp [intOf]; omega
              · obtain ⟨P, B1, B2, p1, p2, p3, p4⟩ := round_test D2.out G.out (by omega)
                have hgt2 := p4.1 hgt
                have t1 := dec_false' hbig
                clear hbig p4
                by_cases hbr : 4294967296 ≤ rp
                · obtain rfl := HS1.out hbr
                  have t2 := dec_true' hbr
                  clear hbr
                  go_wp2
                  go_ret2
                  exact ⟨rfl, (by repeat' (first | (with_reducible exact Up.refl _) | (with_reducible assumption) | (with_reducible refine Up.alloc ?_ _) | (with_reducible refine Up.drew ?_) | (with_reducible refine Up.grow ?_ _) | (with_reducible refine Up.setCell ?_ (by (try simp); (try omega)) _)))⟩
                · have t2 := dec_false' hbr
                  have HG := Lib.hid (HS2.out (by omega))
                  clear hbr
                  go_wp2
                  go_round
                  case rel => exact ⟨qm, rp, HG, rfl, rfl⟩
                  case measure => simp [intOf]; omega
            · obtain rfl : d0 = qh := by have := G.out.lo; omega
              have hb := D2.out.db
              obtain ⟨P, B1, B2, p1, p2, p3, p4⟩ := round_test D2.out G.out hb
              have hle : P ≤ B2 := by omega
              have t1 := dec_false' (show ¬ 4294967296 ≤ d0 from by omega)
              clear hb hgt p4
              go_wp2
              go_ret2
              exact ⟨rfl, (by repeat' (first | (with_reducible exact Up.refl _) | (with_reducible assumption) | (with_reducible refine Up.alloc ?_ _) | (with_reducible refine Up.drew ?_) | (with_reducible refine Up.grow ?_ _) | (with_reducible refine Up.setCell ?_ (by (try simp); (try omega)) _)))⟩
        · have t2 := dec_false' hbr
          have HG := Lib.hid (HS2.out (by omega))
          clear hbr
          go_wp2
          go_round
          case rel => exact ⟨qm, rp, HG, rfl, rfl⟩
          case measure => simp [intOf]; omega
      · obtain ⟨P, B1, B2, p1, p2, p3, p4⟩ := round_test D1.out G.out (by omega)
        have hgt2 := p4.1 hgt
        have t1 := dec_false' hbig
        clear hbig p4
        by_cases hbr : 4294967296 ≤ rp
        · obtain rfl := HS1.out hbr
          have t2 := dec_true' hbr
          clear hbr
          go_wp2
          clear t1 t2 w1 w2 hgt hlt p1 p2 p3 hgt2
          go_loop [18, 16] (fun q r => ∃ qh rh : Nat, Hid (Guess y1 R1 d0 qh rh) ∧ q = .int .u64 qh ∧ r = .int .u64 rh) (fun q _ => (intOf q).toNat)
          case atStart => exact ⟨q20, r20, S2, rfl, rfl⟩
          case round =>
            obtain ⟨qh, rh, G, rfl, rfl⟩ := hrel
            by_cases hgt : d0 < qh
            · obtain ⟨qm, rp, w1, w2, hlt, hs1, hs2⟩ := round_down D2.out G.out hgt
              have HS1 := Lib.hid hs1
              have HS2 := Lib.hid hs2
              clear hs1 hs2
              by_cases hbig : 4294967296 ≤ qh
              · have t1 := dec_true' hbig
                clear hbig
                by_cases hbr : 4294967296 ≤ rp
                · obtain rfl := HS1.out hbr
                  have t2 := dec_true' hbr
                  clear hbr
                  go_wp2
                  go_ret2
                  exact ⟨rfl, (by repeat' (first | (with_reducible exact Up.refl _) | (with_reducible assumption) | (with_reducible refine Up.alloc ?_ _) | (with_reducible refine Up.drew ?_) | (with_reducible refine Up.grow ?_ _) | (with_reducible refine Up.setCell ?_ (by (try simp); (try omega)) _)))⟩
                · have t2 := dec_false' hbr
                  have HG := Lib.hid (HS2.out (by omega))
                  clear hbr
                  go_wp2
                  go_round
                  case rel => exact ⟨qm, rp, HG, rfl, rfl⟩
                  case measure => simp [intOf]; omega
              · obtain ⟨P, B1, B2, p1, p2, p3, p4⟩ := round_test D2.out G.out (by omega)
                have hgt2 := p4.1 hgt
                have t1 := dec_false' hbig
                clear hbig p4
                by_cases hbr : 4294967296 ≤ rp
                · obtain rfl := HS1.out hbr
                  have t2 := dec_true' hbr
                  clear hbr
                  go_wp2
                  go_ret2
                  exact ⟨rfl, (by repeat' (first | (with_reducible exact Up.refl _) | (with_reducible assumption) | (with_reducible refine Up.alloc ?_ _) | (with_reducible refine Up.drew ?_) | (with_reducible refine Up.grow ?_ _) | (with_reducible refine Up.setCell ?_ (by (try simp); (try omega)) _)))⟩
                · have t2 := dec_false' hbr
                  have HG := Lib.hid (HS2.out (by omega))
                  clear hbr
                  go_wp2
                  go_round
                  case rel => exact ⟨qm, rp, HG, rfl, rfl⟩
                  case measure => simp [intOf]; omega
            · obtain rfl : d0 = qh := by have := G.out.lo; omega
              have hb := D2.out.db
              obtain ⟨P, B1, B2, p1, p2, p3, p4⟩ := round_test D2.out G.out hb
              have hle : P ≤ B2 := by omega
              have t1 := dec_false' (show ¬ 4294967296 ≤ d0 from by omega)
              clear hb hgt p4
              go_wp2
              go_ret2
              exact ⟨rfl, (by repeat' (first | (with_reducible exact Up.refl _) | (with_reducible assumption) | (with_reducible refine Up.alloc ?_ _) | (with_reducible refine Up.drew ?_) | (with_reducible refine Up.grow ?_ _) | (with_reducible refine Up.setCell ?_ (by (try simp); (try omega)) _)))⟩
        · have t2 := dec_false' hbr
          have HG := Lib.hid (HS2.out (by omega))
          clear hbr
          go_wp2
          go_round
          case rel => exact ⟨qm, rp, HG, rfl, rfl⟩
          case measure => simp [intOf]; omega
    · obtain rfl : d1 = qh := by have := G.out.lo; omega
      have hb := D1.out.db
      obtain ⟨P, B1, B2, p1, p2, p3, p4⟩ := round_test D1.out G.out hb
      have hle : P ≤ B2 := by omega
      have t1 := dec_false' (show ¬ 4294967296 ≤ d1 from by omega)
      clear hb hgt p4
      go_wp2
      clear t1 p1 p2 p3 hle
      go_loop [18, 16] (fun q r => ∃ qh rh : Nat, Hid (Guess y1 R1 d0 qh rh) ∧ q = .int .u64 qh ∧ r = .int .u64 rh) (fun q _ => (intOf q).toNat)
      case atStart => exact ⟨q20, r20, S2, rfl, rfl⟩
      case round =>
        obtain ⟨qh, rh, G, rfl, rfl⟩ := hrel
        by_cases hgt : d0 < qh
        · obtain ⟨qm, rp, w1, w2, hlt, hs1, hs2⟩ := round_down D2.out G.out hgt
          have HS1 := Lib.hid hs1
          have HS2 := Lib.hid hs2
          clear hs1 hs2
          by_cases hbig : 4294967296 ≤ qh
          · have t1 := dec_true' hbig
            clear hbig
            by_cases hbr : 4294967296 ≤ rp
            · obtain rfl := HS1.out hbr
              have t2 := dec_true' hbr
              clear hbr
              go_wp2
              go_ret2
              exact ⟨rfl, (by repeat' (first | (with_reducible exact Up.refl _) | (with_reducible assumption) | (with_reducible refine Up.alloc ?_ _) | (with_reducible refine Up.drew ?_) | (with_reducible refine Up.grow ?_ _) | (with_reducible refine Up.setCell ?_ (by (try simp); (try omega)) _)))⟩
            · have t2 := dec_false' hbr
              have HG := Lib.hid (HS2.out (by omega))
              clear hbr
              go_wp2
              go_round
              case rel => exact ⟨qm, rp, HG, rfl, rfl⟩
              case measure => simp [intOf]; omega
          · obtain ⟨P, B1, B2, p1, p2, p3, p4⟩ := round_test D2.out G.out (by omega)
            have hgt2 := p4.1 hgt
            have t1 := dec_false' hbig
            clear hbig p4
            by_cases hbr : 4294967296 ≤ rp
            · obtain rfl := HS1.out hbr
              have t2 := dec_true' hbr
              clear hbr
              go_wp2
              go_ret2
              exact ⟨rfl, (by repeat' (first | (with_reducible exact Up.refl _) | (with_reducible assumption) | (with_reducible refine Up.alloc ?_ _) | (with_reducible refine Up.drew ?_) | (with_reducible refine Up.grow ?_ _) | (with_reducible refine Up.setCell ?_ (by (try simp); (try omega)) _)))⟩
            · have t2 := dec_false' hbr
              have HG := Lib.hid (HS2.out (by omega))
              clear hbr
              go_wp2
              go_round
              case rel => exact ⟨qm, rp, HG, rfl, rfl⟩
              case measure => simp [intOf]; omega
        · obtain rfl : d0 = qh := by have := G.out.lo; omega
          have hb := D2.out.db
          obtain ⟨P, B1, B2, p1, p2, p3, p4⟩ := round_test D2.out G.out hb
          have hle : P ≤ B2 := by omega
          have t1 := dec_false' (show ¬ 4294967296 ≤ d0 from by omega)
          clear hb hgt p4
          go_wp2
          go_ret2
          exact ⟨rfl, (by repeat' (first | (with_reducible exact Up.refl _) | (with_reducible assumption) | (with_reducible refine Up.alloc ?_ _) | (with_reducible refine Up.drew ?_) | (with_reducible refine Up.grow ?_ _) | (with_reducible refine Up.setCell ?_ (by (try simp); (try omega)) _)))⟩

theorem castP (a s : Nat) : ((a * 2 ^ s : Nat) : Int) = (a : Int) * 2 ^ s := by rw [Int.natCast_mul, Int.natCast_pow]; rfl
theorem guess_of {y1 y0 u u1 : Nat} (D : Dig 4294967296 y1 y0 u u1) (hy : y1 < 4294967296) (hu : u < 18446744073709551616) :
    IntKind.u64.wrap ((u : Int) / y1) = ((u / y1 : Nat) : Int) ∧ IntKind.u64.wrap (((u / y1 : Nat) : Int) * y1) = ((u / y1 * y1 : Nat) : Int) ∧ IntKind.u64.wrap ((u : Int) - ((u / y1 * y1 : Nat) : Int)) = ((u - u / y1 * y1 : Nat) : Int) ∧
      Guess y1 u (dg 4294967296 y1 y0 u u1) (u / y1) (u - u / y1 * y1) := by
  have h1 := Nat.div_mul_le_self u y1
  have h2 := Nat.div_le_self u y1
  have h3 := D.start
  have h4 : u - u / y1 * y1 < y1 := by
    have e := Nat.div_add_mod u y1
    have := Nat.mod_lt u D.y1pos
    rw [Nat.mul_comm] at e
    omega
  refine ⟨?_, ?_, ?_, ⟨by omega, h3.1, h3.2, by omega⟩⟩
  · rw [← Int.natCast_ediv]; exact wrapU _ (by omega)
  · rw [← Int.natCast_mul]; exact wrapU _ (by omega)
  · rw [IntKind.wrap_u64]; omega
theorem digAt_of {y1 y0 u u1 : Nat} (D : Dig 4294967296 y1 y0 u u1) (hy : y1 < 4294967296) : DigAt y1 y0 u u1 (dg 4294967296 y1 y0 u u1) :=
  ⟨D.y1pos, hy, D.y0lt, D.u1lt, D.lt, fun _ _ e => D.test e, fun _ _ e h1 h2 => D.stop e h1 h2⟩
theorem rest_of (u u1 d Y R : Nat) (h : d * Y + R = u * 4294967296 + u1) (hR : R < 18446744073709551616) :
    ∃ a1 a2 a3 : Nat, IntKind.u64.wrap ((u : Int) * 4294967296) = a1 ∧ IntKind.u64.wrap ((a1 : Int) + u1) = a2 ∧ IntKind.u64.wrap ((d : Int) * Y) = a3 ∧ IntKind.u64.wrap ((a2 : Int) - a3) = R := by
  refine ⟨u * 4294967296 % 18446744073709551616, (u * 4294967296 % 18446744073709551616 + u1) % 18446744073709551616, d * Y % 18446744073709551616, ?_, ?_, ?_, ?_⟩
  · rw [IntKind.wrap_u64]; omega
  · rw [IntKind.wrap_u64]; omega
  · rw [IntKind.wrap_u64, ← Int.natCast_mul]; omega
  · rw [IntKind.wrap_u64]; omega

/-- math/bits.Div64: quotient and rest of the two words. -/
theorem b_Div64 (hi lo y : Nat) (hhi : hi < y) (hlo : lo < 18446744073709551616) (hy : y < 18446744073709551616) (w : World) :
    Calls Try.prog 265 #[.int .u64 hi, .int .u64 lo, .int .u64 y] w (Ret w (.tuple #[.int .u64 (((hi * 18446744073709551616 + lo) / y : Nat) : Int), .int .u64 (((hi * 18446744073709551616 + lo) % y : Nat) : Int)])) := by
  have hy0 : ((y : Int) == 0) = false := by simp; omega
  by_cases hz : hi = 0
  · subst hz
    rw [Nat.zero_mul, Nat.zero_add]
    have i1 : IntKind.u64.wrap ((lo : Int) / y) = ((lo / y : Nat) : Int) := by rw [← Int.natCast_ediv]; exact wrapU _ (Nat.lt_of_le_of_lt (Nat.div_le_self _ _) hlo)
    have h := b_Div64a lo y (lo / y) hy0 i1 (by omega) w
    rw [← Int.natCast_emod] at h
    exact h
  obtain ⟨s, hs, es, g1, g2⟩ := lead y (by omega) hy
  have hz0 : ((hi : Int) == 0) = false := by simp; omega
  obtain ⟨Y, y1, y0, u32, u10, u1, u0, R1, R0, eY, eYs, hY2, D1, D2, e32, k1, k2, e10, e10s, x1, x2, x3, x4, f1, f2⟩ := div64_nums hi lo y s hs hhi hlo g1 g2
  have HL : ∀ w : World, Calls Try.prog 269 #[.int .u64 y] w fun e w' => e = .returned (.int .i64 s) ∧ w' = w := fun w => by
    have h := Try.bits_LeadingZeros64 (y : Int) w (by omega) (by omega)
    rw [Int.toNat_natCast, es] at h; exact h
  have y1b : y1 < 4294967296 := by omega
  have hw : lo / 2 ^ (64 - s) ≤ lo := Nat.div_le_self _ _
  obtain ⟨m10, m11, m12, S1⟩ := guess_of D1 y1b (by have := D1.ult; omega)
  obtain ⟨m20, m21, m22, S2⟩ := guess_of D2 y1b (by omega)
  obtain ⟨a1, a2, a3, n1, n2, n3, n4⟩ := rest_of u32 u1 _ Y R1 x1 (by omega)
  obtain ⟨c1, c2, c3, b1, b2, b3, b4⟩ := rest_of R1 u0 _ Y R0 x3 (by omega)
  have q1 := D1.lt
  have q2 := D2.lt
  have h := b_Div64b hi lo y s Y y1 y0 u32 (hi * 2 ^ s) (lo / 2 ^ (64 - s)) u10 u1 u0 R1 R0 _ _ _ _ _ _ _ _ a1 a2 a3 c1 c2 c3 (dg 4294967296 y1 y0 u32 u1 * 4294967296) (dg 4294967296 y1 y0 u32 u1 * 4294967296 + dg 4294967296 y1 y0 R1 u0) hs hy0 hhi hz0 HL
    (by rw [← castP, eY]; exact wrapU _ g2) (by have := D1.y0lt; omega) (by rw [andN Y hY2]; have := D1.y0lt; omega) (by rw [← castP]; exact wrapU _ k1) (by rw [Int.natCast_ediv, Int.natCast_pow]; rfl)
    (by rw [e32]; exact orN hi _ s k1 k2 (Nat.lt_of_le_of_lt hw hlo)) (by rw [← castP, IntKind.wrap_u64, e10]; omega) (by have := D2.u1lt; omega) (by rw [andN u10 (by omega)]; have := D2.u1lt; omega)
    D1.y1pos (Lib.hid (digAt_of D1 y1b)) (Lib.hid (digAt_of D2 y1b)) m10 m11 m12 (Lib.hid S1) n1 n2 n3 n4 m20 m21 m22 (Lib.hid S2) b1 b2 b3 b4 (by rw [IntKind.wrap_u64]; omega) (by rw [IntKind.wrap_u64]; omega) w
  rw [← f1, ← f2, Int.natCast_ediv, Int.natCast_pow]
  exact h
end Go.Proofs.Ytdeoampkbbbleaa
