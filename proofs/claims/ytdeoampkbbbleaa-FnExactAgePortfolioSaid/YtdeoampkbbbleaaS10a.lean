/- The reference's long division of a difference l10Minus. Condition: numbers in range, the quotients at most 10^18. -/
import Derived.Test.YtdeoampkbbbleaaPureP
import Derived.Test.YtdeoampkbbbleaaTabs
namespace Go.Proofs.Ytdeoampkbbbleaa
open Go.RowKit Pu

set_option linter.unusedSimpArgs false in
set_option maxHeartbeats 4000000 in
theorem s_Minus (a b s c d : Int) (ha : 0 ≤ a) (ha2 : a < 4398046511104) (hs : 0 ≤ s) (hs2 : s < 4398046511104) (hb : 0 ≤ b) (hb2 : b ≤ 1000000000000000000) (hc : 0 ≤ c) (hc2 : c ≤ 1000000000000000000) (hd : 1 ≤ d) (hd2 : d ≤ 1000000000000000000)
    (hG : ∀ j, -(1000000000000000000 * d) ≤ gn a b s c j ∧ gn a b s c j ≤ 1000000000000000000 * d) (w : World) :
    Calls Try.prog 214 #[.int .i64 a, .int .i64 b, .int .i64 s, .int .i64 c, .int .i64 d] w fun e w' => e = .returned (.tuple #[.int .i64 ((a * b - s * c) / d), .int .i64 ((a * b - s * c) % d)]) ∧ w = w' := by
  have dm (G : Int) : G / d * d + G % d = G ∧ 0 ≤ G % d ∧ G % d < d := ⟨by rw [Int.mul_comm]; exact Int.mul_ediv_add_emod G d, Int.emod_nonneg _ (by omega), Int.emod_lt_of_pos _ (by omega)⟩
  have DM := Lib.hid dm
  have HGG := Lib.hid hG
  have E42 := Lib.hid (gn_top b c ha ha2 hs hs2)
  clear dm hG
  go_enter Try.func214, Try.ntmps214
  go_wp2
  go_loop [12, 13, 14] (fun q r i => ∃ j : Nat, j ≤ 42 ∧ i = .int .i64 (j - 1) ∧ q = .int .i64 (gn a b s c j / d) ∧ r = .int .i64 (gn a b s c j % d)) (fun _ _ i => (intOf i + 1).toNat)
  case atStart => exact ⟨42, by omega, rfl, by rw [E42.out]; simp, by rw [E42.out]; simp⟩
  case round =>
    obtain ⟨j, hj, rfl, rfl, rfl⟩ := hrel
    by_cases hlt : j = 0
    · subst hlt
      go_wp2
      go_ret2
      exact ⟨by rw [gn_zero]; rfl, rfl⟩
    · obtain ⟨mm, rfl⟩ : ∃ mm, j = mm + 1 := ⟨j - 1, by omega⟩
      have hg := HGG.out mm; have hg1 := HGG.out (mm + 1)
      obtain ⟨e1, e2, e3⟩ := DM.out (gn a b s c (mm + 1))
      have hQ := q_bd hd e1 hg1.1 hg1.2 (by omega) (by omega)
      have hp : (0 : Int) < 2 ^ mm := Int.pow_pos (by omega)
      have hya : (a / 2 ^ mm).tmod 2 = a / 2 ^ mm % 2 := Int.tmod_eq_emod_of_nonneg (Int.ediv_nonneg ha (Int.le_of_lt hp))
      have hys : (s / 2 ^ mm).tmod 2 = s / 2 ^ mm % 2 := Int.tmod_eq_emod_of_nonneg (Int.ediv_nonneg hs (Int.le_of_lt hp))
      have hbd : 0 ≤ b / d ∧ b / d ≤ b ∧ 0 ≤ b % d ∧ b % d < d := ⟨Int.ediv_nonneg hb (by omega), Int.ediv_le_self _ hb, Int.emod_nonneg _ (by omega), Int.emod_lt_of_pos _ (by omega)⟩
      have hcd : 0 ≤ c / d ∧ c / d ≤ c ∧ 0 ≤ c % d ∧ c % d < d := ⟨Int.ediv_nonneg hc (by omega), Int.ediv_le_self _ hc, Int.emod_nonneg _ (by omega), Int.emod_lt_of_pos _ (by omega)⟩
      have hgr (e f : Int) (he : a / 2 ^ mm % 2 = e) (hf : s / 2 ^ mm % 2 = f) := g_round (b := b) (c := c) (d := d) mm he hf _ _ e1
      obtain ⟨G, hGm⟩ : ∃ G, gn a b s c mm = G := ⟨_, rfl⟩
      rw [hGm] at hg hgr
      have HG := Lib.hid hGm
      have he : a / 2 ^ mm % 2 = 0 ∨ a / 2 ^ mm % 2 = 1 := by omega
      have hf : s / 2 ^ mm % 2 = 0 ∨ s / 2 ^ mm % 2 = 1 := by omega
      clear hGm e1 hg1 hp
      rcases he with he | he <;> rcases hf with hf | hf
      · have E := hgr 0 0 he hf
        rw [he] at hya
        rw [hf] at hys
        simp only [Int.one_mul, Int.zero_mul, Int.add_zero, Int.sub_zero] at E
        replace E := Lib.hid E
        clear hgr
        generalize gn a b s c (mm + 1) / d = Q at *
        generalize gn a b s c (mm + 1) % d = R at *
        go_wp2
        go_loop [12, 13] (fun q r => ∃ x y : Int, q = .int .i64 x ∧ r = .int .i64 y ∧ Hid (x * d + y = G) ∧ -d ≤ y ∧ y ≤ 3 * d) (fun _ r => (-(intOf r)).toNat)
        case atStart => exact ⟨_, _, rfl, rfl, E, by omega, by omega⟩
        case round =>
          clear E he hf
          obtain ⟨x, y, rfl, rfl, E, y1, y2⟩ := hrel
          have hx := q_bd hd E.out hg.1 hg.2 (by omega) (by omega)
          by_cases hy : y < 0
          · have E2 := Lib.hid (q_down E.out)
            go_wp2
            go_round
            case rel => exact ⟨x - 1, y + d, by go_num, by go_num, E2, by omega, by omega⟩
            case measure => simp [intOf]; omega
          · go_wp2
            go_loop [12, 13] (fun q r => ∃ x y : Int, q = .int .i64 x ∧ r = .int .i64 y ∧ Hid (x * d + y = G) ∧ 0 ≤ y ∧ y ≤ 3 * d) (fun _ r => (intOf r).toNat)
            case atStart => exact ⟨_, _, rfl, rfl, E, by omega, by omega⟩
            case round =>
              clear E hy hx y1 y2
              obtain ⟨x, y, rfl, rfl, E, y1, y2⟩ := hrel
              have hx := q_bd hd E.out hg.1 hg.2 (by omega) (by omega)
              by_cases hy : d ≤ y
              · have E2 := Lib.hid (q_up E.out)
                go_wp2
                go_round
                case rel => exact ⟨x + 1, y - d, by go_num, by go_num, E2, by omega, by omega⟩
                case measure => simp [intOf]; omega
              · have hf := q_fin hd E.out y1 (by omega)
                have HF := Lib.hid hf
                clear hf
                go_wp2
                go_round
                case rel => exact ⟨mm, by omega, by go_num, by rw [HG.out, ← HF.out.1], by rw [HG.out, ← HF.out.2]⟩
                case measure => simp [intOf]
      · have E := hgr 0 1 he hf
        rw [he] at hya
        rw [hf] at hys
        simp only [Int.one_mul, Int.zero_mul, Int.add_zero, Int.sub_zero] at E
        replace E := Lib.hid E
        clear hgr
        generalize gn a b s c (mm + 1) / d = Q at *
        generalize gn a b s c (mm + 1) % d = R at *
        go_wp2
        go_loop [12, 13] (fun q r => ∃ x y : Int, q = .int .i64 x ∧ r = .int .i64 y ∧ Hid (x * d + y = G) ∧ -d ≤ y ∧ y ≤ 3 * d) (fun _ r => (-(intOf r)).toNat)
        case atStart => exact ⟨_, _, rfl, rfl, E, by omega, by omega⟩
        case round =>
          clear E he hf
          obtain ⟨x, y, rfl, rfl, E, y1, y2⟩ := hrel
          have hx := q_bd hd E.out hg.1 hg.2 (by omega) (by omega)
          by_cases hy : y < 0
          · have E2 := Lib.hid (q_down E.out)
            go_wp2
            go_round
            case rel => exact ⟨x - 1, y + d, by go_num, by go_num, E2, by omega, by omega⟩
            case measure => simp [intOf]; omega
          · go_wp2
            go_loop [12, 13] (fun q r => ∃ x y : Int, q = .int .i64 x ∧ r = .int .i64 y ∧ Hid (x * d + y = G) ∧ 0 ≤ y ∧ y ≤ 3 * d) (fun _ r => (intOf r).toNat)
            case atStart => exact ⟨_, _, rfl, rfl, E, by omega, by omega⟩
            case round =>
              clear E hy hx y1 y2
              obtain ⟨x, y, rfl, rfl, E, y1, y2⟩ := hrel
              have hx := q_bd hd E.out hg.1 hg.2 (by omega) (by omega)
              by_cases hy : d ≤ y
              · have E2 := Lib.hid (q_up E.out)
                go_wp2
                go_round
                case rel => exact ⟨x + 1, y - d, by go_num, by go_num, E2, by omega, by omega⟩
                case measure => simp [intOf]; omega
              · have hf := q_fin hd E.out y1 (by omega)
                have HF := Lib.hid hf
                clear hf
                go_wp2
                go_round
                case rel => exact ⟨mm, by omega, by go_num, by rw [HG.out, ← HF.out.1], by rw [HG.out, ← HF.out.2]⟩
                case measure => simp [intOf]
      · have E := hgr 1 0 he hf
        rw [he] at hya
        rw [hf] at hys
        simp only [Int.one_mul, Int.zero_mul, Int.add_zero, Int.sub_zero] at E
        replace E := Lib.hid E
        clear hgr
        generalize gn a b s c (mm + 1) / d = Q at *
        generalize gn a b s c (mm + 1) % d = R at *
        go_wp2
        go_loop [12, 13] (fun q r => ∃ x y : Int, q = .int .i64 x ∧ r = .int .i64 y ∧ Hid (x * d + y = G) ∧ -d ≤ y ∧ y ≤ 3 * d) (fun _ r => (-(intOf r)).toNat)
        case atStart => exact ⟨_, _, rfl, rfl, E, by omega, by omega⟩
        case round =>
          clear E he hf
          obtain ⟨x, y, rfl, rfl, E, y1, y2⟩ := hrel
          have hx := q_bd hd E.out hg.1 hg.2 (by omega) (by omega)
          by_cases hy : y < 0
          · have E2 := Lib.hid (q_down E.out)
            go_wp2
            go_round
            case rel => exact ⟨x - 1, y + d, by go_num, by go_num, E2, by omega, by omega⟩
            case measure => simp [intOf]; omega
          · go_wp2
            go_loop [12, 13] (fun q r => ∃ x y : Int, q = .int .i64 x ∧ r = .int .i64 y ∧ Hid (x * d + y = G) ∧ 0 ≤ y ∧ y ≤ 3 * d) (fun _ r => (intOf r).toNat)
            case atStart => exact ⟨_, _, rfl, rfl, E, by omega, by omega⟩
            case round =>
              clear E hy hx y1 y2
              obtain ⟨x, y, rfl, rfl, E, y1, y2⟩ := hrel
              have hx := q_bd hd E.out hg.1 hg.2 (by omega) (by omega)
              by_cases hy : d ≤ y
              · have E2 := Lib.hid (q_up E.out)
                go_wp2
                go_round
                case rel => exact ⟨x + 1, y - d, by go_num, by go_num, E2, by omega, by omega⟩
                case measure => simp [intOf]; omega
              · have hf := q_fin hd E.out y1 (by omega)
                have HF := Lib.hid hf
                clear hf
                go_wp2
                go_round
                case rel => exact ⟨mm, by omega, by go_num, by rw [HG.out, ← HF.out.1], by rw [HG.out, ← HF.out.2]⟩
                case measure => simp [intOf]
      · have E := hgr 1 1 he hf
        rw [he] at hya
        rw [hf] at hys
        simp only [Int.one_mul, Int.zero_mul, Int.add_zero, Int.sub_zero] at E
        replace E := Lib.hid E
        clear hgr
        generalize gn a b s c (mm + 1) / d = Q at *
        generalize gn a b s c (mm + 1) % d = R at *
        go_wp2
        go_loop [12, 13] (fun q r => ∃ x y : Int, q = .int .i64 x ∧ r = .int .i64 y ∧ Hid (x * d + y = G) ∧ -d ≤ y ∧ y ≤ 3 * d) (fun _ r => (-(intOf r)).toNat)
        case atStart => exact ⟨_, _, rfl, rfl, E, by omega, by omega⟩
        case round =>
          clear E he hf
          obtain ⟨x, y, rfl, rfl, E, y1, y2⟩ := hrel
          have hx := q_bd hd E.out hg.1 hg.2 (by omega) (by omega)
          by_cases hy : y < 0
          · have E2 := Lib.hid (q_down E.out)
            go_wp2
            go_round
            case rel => exact ⟨x - 1, y + d, by go_num, by go_num, E2, by omega, by omega⟩
            case measure => simp [intOf]; omega
          · go_wp2
            go_loop [12, 13] (fun q r => ∃ x y : Int, q = .int .i64 x ∧ r = .int .i64 y ∧ Hid (x * d + y = G) ∧ 0 ≤ y ∧ y ≤ 3 * d) (fun _ r => (intOf r).toNat)
            case atStart => exact ⟨_, _, rfl, rfl, E, by omega, by omega⟩
            case round =>
              clear E hy hx y1 y2
              obtain ⟨x, y, rfl, rfl, E, y1, y2⟩ := hrel
              have hx := q_bd hd E.out hg.1 hg.2 (by omega) (by omega)
              by_cases hy : d ≤ y
              · have E2 := Lib.hid (q_up E.out)
                go_wp2
                go_round
                case rel => exact ⟨x + 1, y - d, by go_num, by go_num, E2, by omega, by omega⟩
                case measure => simp [intOf]; omega
              · have hf := q_fin hd E.out y1 (by omega)
                have HF := Lib.hid hf
                clear hf
                go_wp2
                go_round
                case rel => exact ⟨mm, by omega, by go_num, by rw [HG.out, ← HF.out.1], by rw [HG.out, ← HF.out.2]⟩
                case measure => simp [intOf]
end Go.Proofs.Ytdeoampkbbbleaa
