/- The law of survivors: the walk. Condition: the code reads as bytes. -/
import Derived.Test.YtdeoampkbbbleaaDraw7
import Derived.Test.YtdeoampkbbbleaaMid
import Derived.Test.YtdeoampkbbbleaaLike
namespace Go.Proofs.Ytdeoampkbbbleaa
open Go.RowKit Pu
set_option linter.unusedVariables false
set_option linter.unusedSimpArgs false

theorem mul_bd7 {a c : Int} (h0 : 0 ≤ a) (h1 : a ≤ 1000000) (h2 : 0 ≤ c) (h3 : c ≤ 1000000) : 0 ≤ a * c ∧ a * c ≤ 1000000000000 := by
  have h : a * c ≤ 1000000 * 1000000 := Int.mul_le_mul h1 h3 h2 (by omega)
  exact ⟨Int.mul_nonneg h0 h2, by omega⟩
theorem su_law {T : Tab} (h : T.Ok) {k n : Nat} (hk : k + 1 < T.n) : (suA T k n : Int) * T.lv k = (suB T k n : Int) * T.lv (k + n) ∧ Nat.gcd (suA T k n) (suB T k n) = 1 ∧ suA T k n ≤ 1000000 ∧ suB T k n ≤ 1000000 := by
  have hl := h.lv_pos hk
  have hb := h.lv_bd k
  have hb2 := h.lv_bd (k + n)
  obtain ⟨l, hl2⟩ : ∃ l : Nat, T.lv k = l := ⟨(T.lv k).toNat, by omega⟩
  obtain ⟨m, hm2⟩ : ∃ m : Nat, T.lv (k + n) = m := ⟨(T.lv (k + n)).toNat, by omega⟩
  have e1 : suB T k n = fB m l := by unfold suB; rw [hl2, hm2]; simp
  have e2 : suA T k n = fA m l := by unfold suA; rw [hl2, hm2]; simp
  rw [e1, e2, hl2, hm2]
  have g3 := fA_le m l
  have g4 := fB_le m l
  refine ⟨by rw [← Int.natCast_mul, ← Int.natCast_mul, f_cross], f_coprime (by omega), by omega, by omega⟩
theorem suC_zero {T : Tab} {age n : Int} (h : suC T age n = 0) : alC T age = 0 := by
  obtain ⟨hT, k, n, rfl, rfl, hk, _, hkn⟩ := suC_ok h
  exact alC_at hT hk hkn
set_option maxRecDepth 100000 in
set_option maxHeartbeats 8000000 in
theorem l_Survival (A : Option Addr) (n c : Nat) (w : World) (hI : InCode w A n c) : Calls Try.prog 9 #[.slice A n c] w (Ret w (.bool true)) := by
  by_cases hb : 4096 < n
  · have HB := Lib.hid (l_Big A n c true (by simp [hb]) (by have := hI.1; have := hI.2.1; omega))
    clear hI
    go_enter Try.func9, Try.ntmps9
    go_wp2_with (go_at_call 38; (with_reducible refine (HB.out _).mono ?_); rintro e w' ⟨rfl, rfl⟩)
    go_ret
    exact ⟨rfl, (by repeat' (first | (with_reducible exact Up.refl _) | (with_reducible assumption) | (with_reducible refine Up.alloc ?_ _) | (with_reducible refine Up.drew ?_) | (with_reducible refine Up.grow ?_ _) | (with_reducible refine Up.setCell ?_ (by (try simp); (try omega)) _)))⟩
  have HB := Lib.hid (l_Big A n c false (by simp [hb]) (by have := hI.1; have := hI.2.1; omega))
  have HI := Lib.hid hI
  have hn : n ≤ 4096 := by omega
  clear hI hb
  go_enter Try.func9, Try.ntmps9
  go_upto_region 4 with (first
    | (go_at_call 38; (with_reducible refine (HB.out _).mono ?_); rintro e w' ⟨rfl, rfl⟩)
    | (go_at_call 59; (with_reducible refine (s_DrawSurvivalOf A n c hn _ HI.out).mono ?_); rintro e w2 ⟨T, A1, c1, age, yrs, rfl, hu2, hO⟩))
  have hu3 := Up.alloc (Up.refl w2) (.cells #[.int .i64 T.first, .slice A1 T.n c1] 31)
  have hup : Up w (w2.alloc (.cells #[.int .i64 T.first, .slice A1 T.n c1] 31)) := hu2.trans hu3
  have hT := Blk.new w2 31 #[.int .i64 T.first, .slice A1 T.n c1]
  have hv := hO.tab.up hu3
  generalize w2.alloc (.cells #[.int .i64 T.first, .slice A1 T.n c1] 31) = w3 at *
  generalize w2.heap.size = bT at *
  clear hu2 hu3 HB HI hO hn
  (have q0 := hT.cell 0); (have q1 := hT.cell 1); (have qi := hT.inw)
  have H1 := Lib.hid (i_Survival T age yrs)
  have H2 := Lib.hid (s_Survival T age yrs)
  have H3 := Lib.hid (i_Mid T age)
  have H4 := Lib.hid (s_Mid T age)
  by_cases hz : alC T age = 0
  case neg =>
    have hs : ¬ suC T age yrs = 0 := fun h => hz (suC_zero h)
    simp only [RetQ3_bad hs, RetQ_bad hz] at H1 H2 H3 H4
    (have hz1 : ((alC T age) != 0) = true := (by simpa using hz)); (have hz2 : ((alC T age) == 0) = false := (by simpa using hz))
    have hs1 : ((suC T age yrs) != 0) = true := by simpa using hs
    have hs2 : ((suC T age yrs) == 0) = false := by simpa using hs
    clear hz hs
    generalize alC T age = K at *
    generalize suC T age yrs = K2 at *
    go_wp2_with (first | (go_at_call 60; (with_reducible refine (H1.out _ _ hv).mono ?_); rintro e w' ⟨rfl, hu⟩; (have hT := hT.up hu); (have hup := hup.trans hu); (have hv := hv.up hu); (try (have hT2 := hT2.up hu; have r0 := hT2.cell 0; have r1 := hT2.cell 1; have ri := hT2.inw)); (try have hv2 := hv2.up hu); (try have hi1 := hi1.up hu); (try have hi2 := hi2.up hu); (have q0 := hT.cell 0); (have q1 := hT.cell 1); (have qi := hT.inw)) | (go_at_call 61; (with_reducible refine (H2.out _ _ hv).mono ?_); rintro e w' ⟨rfl, hu⟩; (have hT := hT.up hu); (have hup := hup.trans hu); (have hv := hv.up hu); (try (have hT2 := hT2.up hu; have r0 := hT2.cell 0; have r1 := hT2.cell 1; have ri := hT2.inw)); (try have hv2 := hv2.up hu); (try have hi1 := hi1.up hu); (try have hi2 := hi2.up hu); (have q0 := hT.cell 0); (have q1 := hT.cell 1); (have qi := hT.inw)) | (go_at_call 62; (with_reducible refine (H3.out _ _ hv).mono ?_); rintro e w' ⟨rfl, hu⟩; (have hT := hT.up hu); (have hup := hup.trans hu); (have hv := hv.up hu); (try (have hT2 := hT2.up hu; have r0 := hT2.cell 0; have r1 := hT2.cell 1; have ri := hT2.inw)); (try have hv2 := hv2.up hu); (try have hi1 := hi1.up hu); (try have hi2 := hi2.up hu); (have q0 := hT.cell 0); (have q1 := hT.cell 1); (have qi := hT.inw)) | (go_at_call 63; (with_reducible refine (H4.out _ _ hv).mono ?_); rintro e w' ⟨rfl, hu⟩; (have hT := hT.up hu); (have hup := hup.trans hu); (have hv := hv.up hu); (try (have hT2 := hT2.up hu; have r0 := hT2.cell 0; have r1 := hT2.cell 1; have ri := hT2.inw)); (try have hv2 := hv2.up hu); (try have hi1 := hi1.up hu); (try have hi2 := hi2.up hu); (have q0 := hT.cell 0); (have q1 := hT.cell 1); (have qi := hT.inw)))
    go_ret
    exact ⟨rfl, hup.trans (by repeat' (first | (with_reducible exact Up.refl _) | (with_reducible assumption) | (with_reducible refine Up.alloc ?_ _) | (with_reducible refine Up.drew ?_) | (with_reducible refine Up.grow ?_ _) | (with_reducible refine Up.setCell ?_ (by (try simp); (try omega)) _)))⟩
  obtain ⟨hT1, k, rfl, hk, hkn⟩ := alC_ok hz
  have q1_ := hT1.lo; have q2_ := hT1.hi; have q3_ := hT1.n120; have q4_ := hT1.fin
  obtain ⟨hm, hmn⟩ := midN_spec hT1 hkn
  simp only [hz, RetQ_ok, ix_k] at H3 H4
  generalize Tab.midN T k = M at *
  have hl := hT1.lv_pos hkn
  have M1 : 1 ≤ M := by
    rcases Nat.eq_zero_or_pos M with h | h
    · subst h; have := hm.1; simp at this; omega
    · exact h
  have HL := i_LivesAt T (T.first + k)
  simp only [aC_in hT1 hk, RetQ_ok, ix_k] at HL
  have HM := i_LivesAt T (T.first + ((k + M : Nat) : Int))
  simp only [aC_in hT1 (show T.first + ((k + M : Nat) : Int) ≤ 150 by omega), RetQ_ok, ix_k] at HM
  rw [show T.first + ((k + M : Nat) : Int) = T.first + k + M from by omega] at HM
  have HZ := i_LivesAt T (T.first + ((k + (M - 1) : Nat) : Int))
  simp only [aC_in hT1 (show T.first + ((k + (M - 1) : Nat) : Int) ≤ 150 by omega), RetQ_ok, ix_k] at HZ
  rw [show T.first + ((k + (M - 1) : Nat) : Int) = T.first + k + M - 1 from by omega] at HZ
  have f1 : ¬ T.lv k < 2 * T.lv (k + M) := by have := hm.1; omega
  have f2 : ¬ 2 * T.lv (k + (M - 1)) ≤ T.lv k := by have := hm.2 (M - 1) (by omega); omega
  have f3 : ¬ T.first + (k : Int) + M ≤ T.first + k := by omega
  have b1 := hT1.lv_bd k; have b2 := hT1.lv_bd (k + M); have b3 := hT1.lv_bd (k + (M - 1))
  have i1 : IntKind.i64.wrap (T.first + k + M - 1) = T.first + k + M - 1 := IntWalk.i64_in _ (by omega)
  have i2 : IntKind.i64.wrap (2 * T.lv (k + M)) = 2 * T.lv (k + M) := IntWalk.i64_in _ (by omega)
  have i3 : IntKind.i64.wrap (2 * T.lv (k + (M - 1))) = 2 * T.lv (k + (M - 1)) := IntWalk.i64_in _ (by omega)
  replace HL := Lib.hid HL
  replace HM := Lib.hid HM
  replace HZ := Lib.hid HZ
  clear hm
  by_cases hs : suC T (T.first + k) yrs = 0
  case neg =>
    simp only [RetQ3_bad hs] at H1 H2
    have hs1 : ((suC T (T.first + k) yrs) != 0) = true := by simpa using hs
    have hs2 : ((suC T (T.first + k) yrs) == 0) = false := by simpa using hs
    clear hs hz
    generalize suC T (T.first + k) yrs = K2 at *
    generalize T.lv (k + M) = LM at *
    generalize T.lv (k + (M - 1)) = LZ at *
    generalize T.lv k = LX at *
    generalize T.first + (k : Int) + M = mm at *
    go_wp2_with (first | (go_at_call 60; (with_reducible refine (H1.out _ _ hv).mono ?_); rintro e w' ⟨rfl, hu⟩; (have hT := hT.up hu); (have hup := hup.trans hu); (have hv := hv.up hu); (try (have hT2 := hT2.up hu; have r0 := hT2.cell 0; have r1 := hT2.cell 1; have ri := hT2.inw)); (try have hv2 := hv2.up hu); (try have hi1 := hi1.up hu); (try have hi2 := hi2.up hu); (have q0 := hT.cell 0); (have q1 := hT.cell 1); (have qi := hT.inw)) | (go_at_call 61; (with_reducible refine (H2.out _ _ hv).mono ?_); rintro e w' ⟨rfl, hu⟩; (have hT := hT.up hu); (have hup := hup.trans hu); (have hv := hv.up hu); (try (have hT2 := hT2.up hu; have r0 := hT2.cell 0; have r1 := hT2.cell 1; have ri := hT2.inw)); (try have hv2 := hv2.up hu); (try have hi1 := hi1.up hu); (try have hi2 := hi2.up hu); (have q0 := hT.cell 0); (have q1 := hT.cell 1); (have qi := hT.inw)) | (go_at_call 62; (with_reducible refine (H3.out _ _ hv).mono ?_); rintro e w' ⟨rfl, hu⟩; (have hT := hT.up hu); (have hup := hup.trans hu); (have hv := hv.up hu); (try (have hT2 := hT2.up hu; have r0 := hT2.cell 0; have r1 := hT2.cell 1; have ri := hT2.inw)); (try have hv2 := hv2.up hu); (try have hi1 := hi1.up hu); (try have hi2 := hi2.up hu); (have q0 := hT.cell 0); (have q1 := hT.cell 1); (have qi := hT.inw)) | (go_at_call 63; (with_reducible refine (H4.out _ _ hv).mono ?_); rintro e w' ⟨rfl, hu⟩; (have hT := hT.up hu); (have hup := hup.trans hu); (have hv := hv.up hu); (try (have hT2 := hT2.up hu; have r0 := hT2.cell 0; have r1 := hT2.cell 1; have ri := hT2.inw)); (try have hv2 := hv2.up hu); (try have hi1 := hi1.up hu); (try have hi2 := hi2.up hu); (have q0 := hT.cell 0); (have q1 := hT.cell 1); (have qi := hT.inw)) | (go_at_call 58; (with_reducible refine (HL.out _ _ hv).mono ?_); rintro e w' ⟨rfl, hu⟩; (have hT := hT.up hu); (have hup := hup.trans hu); (have hv := hv.up hu); (try (have hT2 := hT2.up hu; have r0 := hT2.cell 0; have r1 := hT2.cell 1; have ri := hT2.inw)); (try have hv2 := hv2.up hu); (try have hi1 := hi1.up hu); (try have hi2 := hi2.up hu); (have q0 := hT.cell 0); (have q1 := hT.cell 1); (have qi := hT.inw)) | (go_at_call 58; (with_reducible refine (HM.out _ _ hv).mono ?_); rintro e w' ⟨rfl, hu⟩; (have hT := hT.up hu); (have hup := hup.trans hu); (have hv := hv.up hu); (try (have hT2 := hT2.up hu; have r0 := hT2.cell 0; have r1 := hT2.cell 1; have ri := hT2.inw)); (try have hv2 := hv2.up hu); (try have hi1 := hi1.up hu); (try have hi2 := hi2.up hu); (have q0 := hT.cell 0); (have q1 := hT.cell 1); (have qi := hT.inw)) | (go_at_call 58; (with_reducible refine (HZ.out _ _ hv).mono ?_); rintro e w' ⟨rfl, hu⟩; (have hT := hT.up hu); (have hup := hup.trans hu); (have hv := hv.up hu); (try (have hT2 := hT2.up hu; have r0 := hT2.cell 0; have r1 := hT2.cell 1; have ri := hT2.inw)); (try have hv2 := hv2.up hu); (try have hi1 := hi1.up hu); (try have hi2 := hi2.up hu); (have q0 := hT.cell 0); (have q1 := hT.cell 1); (have qi := hT.inw)))
    go_ret
    exact ⟨rfl, hup.trans (by repeat' (first | (with_reducible exact Up.refl _) | (with_reducible assumption) | (with_reducible refine Up.alloc ?_ _) | (with_reducible refine Up.drew ?_) | (with_reducible refine Up.grow ?_ _) | (with_reducible refine Up.setCell ?_ (by (try simp); (try omega)) _)))⟩
  obtain ⟨_, k', n', e1, rfl, hk', hn', _⟩ := suC_ok hs
  obtain rfl : k = k' := by omega
  simp only [hs, RetQ3_ok, ix_k, Int.toNat_natCast] at H1 H2
  obtain ⟨g1, g2, g3, g4⟩ := su_law hT1 (n := n') hkn
  have HC := i_Common (suA T k n') (suB T k n') (by omega) (by omega)
  rw [g2] at HC
  replace HC := Lib.hid HC
  have b4 := hT1.lv_bd (k + n')
  have p1 := mul_bd7 (a := (suA T k n' : Int)) (c := T.lv k) (by omega) (by omega) b1.1 b1.2
  have j0 : IntKind.i64.wrap (T.first + k + n') = T.first + k + n' := IntWalk.i64_in _ (by omega)
  obtain ⟨P, hP⟩ : ∃ P, (suA T k n' : Int) * T.lv k = P := ⟨_, rfl⟩
  have j1 : IntKind.i64.wrap ((suA T k n' : Int) * T.lv k) = P := by rw [hP]; rw [hP] at p1; exact IntWalk.i64_in _ (by omega)
  have j2 : IntKind.i64.wrap ((suB T k n' : Int) * T.lv (k + n')) = P := by rw [← g1]; exact j1
  have j3 : IntKind.i64.wrap 0 = 0 := by decide
  by_cases h150 : T.first + k + n' ≤ 150
  · have HN := i_LivesAt T (T.first + ((k + n' : Nat) : Int))
    simp only [aC_in hT1 (show T.first + ((k + n' : Nat) : Int) ≤ 150 by omega), RetQ_ok, ix_k] at HN
    rw [show T.first + ((k + n' : Nat) : Int) = T.first + k + n' from by omega] at HN
    replace HN := Lib.hid HN
    generalize suA T k n' = X at *
    generalize suB T k n' = Y at *
    generalize T.lv (k + M) = LM at *
    generalize T.lv (k + n') = LN at *
    generalize T.lv (k + (M - 1)) = LZ at *
    generalize T.lv k = LX at *
    generalize T.first + (k : Int) + M = mm at *
    clear hz hs g1 g2 g3 g4 hP p1
    go_wp2_with (first | (go_at_call 60; (with_reducible refine (H1.out _ _ hv).mono ?_); rintro e w' ⟨rfl, hu⟩; (have hT := hT.up hu); (have hup := hup.trans hu); (have hv := hv.up hu); (try (have hT2 := hT2.up hu; have r0 := hT2.cell 0; have r1 := hT2.cell 1; have ri := hT2.inw)); (try have hv2 := hv2.up hu); (try have hi1 := hi1.up hu); (try have hi2 := hi2.up hu); (have q0 := hT.cell 0); (have q1 := hT.cell 1); (have qi := hT.inw)) | (go_at_call 61; (with_reducible refine (H2.out _ _ hv).mono ?_); rintro e w' ⟨rfl, hu⟩; (have hT := hT.up hu); (have hup := hup.trans hu); (have hv := hv.up hu); (try (have hT2 := hT2.up hu; have r0 := hT2.cell 0; have r1 := hT2.cell 1; have ri := hT2.inw)); (try have hv2 := hv2.up hu); (try have hi1 := hi1.up hu); (try have hi2 := hi2.up hu); (have q0 := hT.cell 0); (have q1 := hT.cell 1); (have qi := hT.inw)) | (go_at_call 62; (with_reducible refine (H3.out _ _ hv).mono ?_); rintro e w' ⟨rfl, hu⟩; (have hT := hT.up hu); (have hup := hup.trans hu); (have hv := hv.up hu); (try (have hT2 := hT2.up hu; have r0 := hT2.cell 0; have r1 := hT2.cell 1; have ri := hT2.inw)); (try have hv2 := hv2.up hu); (try have hi1 := hi1.up hu); (try have hi2 := hi2.up hu); (have q0 := hT.cell 0); (have q1 := hT.cell 1); (have qi := hT.inw)) | (go_at_call 63; (with_reducible refine (H4.out _ _ hv).mono ?_); rintro e w' ⟨rfl, hu⟩; (have hT := hT.up hu); (have hup := hup.trans hu); (have hv := hv.up hu); (try (have hT2 := hT2.up hu; have r0 := hT2.cell 0; have r1 := hT2.cell 1; have ri := hT2.inw)); (try have hv2 := hv2.up hu); (try have hi1 := hi1.up hu); (try have hi2 := hi2.up hu); (have q0 := hT.cell 0); (have q1 := hT.cell 1); (have qi := hT.inw)) | (go_at_call 58; (with_reducible refine (HL.out _ _ hv).mono ?_); rintro e w' ⟨rfl, hu⟩; (have hT := hT.up hu); (have hup := hup.trans hu); (have hv := hv.up hu); (try (have hT2 := hT2.up hu; have r0 := hT2.cell 0; have r1 := hT2.cell 1; have ri := hT2.inw)); (try have hv2 := hv2.up hu); (try have hi1 := hi1.up hu); (try have hi2 := hi2.up hu); (have q0 := hT.cell 0); (have q1 := hT.cell 1); (have qi := hT.inw)) | (go_at_call 58; (with_reducible refine (HM.out _ _ hv).mono ?_); rintro e w' ⟨rfl, hu⟩; (have hT := hT.up hu); (have hup := hup.trans hu); (have hv := hv.up hu); (try (have hT2 := hT2.up hu; have r0 := hT2.cell 0; have r1 := hT2.cell 1; have ri := hT2.inw)); (try have hv2 := hv2.up hu); (try have hi1 := hi1.up hu); (try have hi2 := hi2.up hu); (have q0 := hT.cell 0); (have q1 := hT.cell 1); (have qi := hT.inw)) | (go_at_call 58; (with_reducible refine (HZ.out _ _ hv).mono ?_); rintro e w' ⟨rfl, hu⟩; (have hT := hT.up hu); (have hup := hup.trans hu); (have hv := hv.up hu); (try (have hT2 := hT2.up hu; have r0 := hT2.cell 0; have r1 := hT2.cell 1; have ri := hT2.inw)); (try have hv2 := hv2.up hu); (try have hi1 := hi1.up hu); (try have hi2 := hi2.up hu); (have q0 := hT.cell 0); (have q1 := hT.cell 1); (have qi := hT.inw)) | (go_at_call 58; (with_reducible refine (HN.out _ _ hv).mono ?_); rintro e w' ⟨rfl, hu⟩; (have hT := hT.up hu); (have hup := hup.trans hu); (have hv := hv.up hu); (try (have hT2 := hT2.up hu; have r0 := hT2.cell 0; have r1 := hT2.cell 1; have ri := hT2.inw)); (try have hv2 := hv2.up hu); (try have hi1 := hi1.up hu); (try have hi2 := hi2.up hu); (have q0 := hT.cell 0); (have q1 := hT.cell 1); (have qi := hT.inw)) | (go_at_call 64; (with_reducible refine (HC.out _).mono ?_); rintro e w' ⟨rfl, hu⟩; (have hT := hT.up hu); (have hup := hup.trans hu); (have hv := hv.up hu); (try (have hT2 := hT2.up hu; have r0 := hT2.cell 0; have r1 := hT2.cell 1; have ri := hT2.inw)); (try have hv2 := hv2.up hu); (try have hi1 := hi1.up hu); (try have hi2 := hi2.up hu); (have q0 := hT.cell 0); (have q1 := hT.cell 1); (have qi := hT.inw)) | ((first | with_reducible refine wp_region_in x (by kernel_rfl) (by kernel_rfl) ?_ | with_reducible refine wp_region_here (by kernel_rfl) (by kernel_rfl) ?_); (repeat (go_big_quiet_step ((fail)))); refine wpQuiet_nil ?_; intro w' hw'; obtain ⟨x, rfl⟩ := hw'))
    go_ret
    exact ⟨rfl, hup.trans (by repeat' (first | (with_reducible exact Up.refl _) | (with_reducible assumption) | (with_reducible refine Up.alloc ?_ _) | (with_reducible refine Up.drew ?_) | (with_reducible refine Up.grow ?_ _) | (with_reducible refine Up.setCell ?_ (by (try simp); (try omega)) _)))⟩
  · have e0 : T.lv (k + n') = 0 := hT1.end_ (by omega)
    rw [e0] at j2 g1
    have hP0 : P = 0 := by rw [← hP, g1]; simp
    rw [hP0] at j1
    clear j2 hP hP0 g1
    generalize suA T k n' = X at *
    generalize suB T k n' = Y at *
    generalize T.lv (k + M) = LM at *
    generalize T.lv (k + (M - 1)) = LZ at *
    generalize T.lv k = LX at *
    generalize T.first + (k : Int) + M = mm at *
    clear hz hs g2 g3 g4 p1 e0
    go_wp2_with (first | (go_at_call 60; (with_reducible refine (H1.out _ _ hv).mono ?_); rintro e w' ⟨rfl, hu⟩; (have hT := hT.up hu); (have hup := hup.trans hu); (have hv := hv.up hu); (try (have hT2 := hT2.up hu; have r0 := hT2.cell 0; have r1 := hT2.cell 1; have ri := hT2.inw)); (try have hv2 := hv2.up hu); (try have hi1 := hi1.up hu); (try have hi2 := hi2.up hu); (have q0 := hT.cell 0); (have q1 := hT.cell 1); (have qi := hT.inw)) | (go_at_call 61; (with_reducible refine (H2.out _ _ hv).mono ?_); rintro e w' ⟨rfl, hu⟩; (have hT := hT.up hu); (have hup := hup.trans hu); (have hv := hv.up hu); (try (have hT2 := hT2.up hu; have r0 := hT2.cell 0; have r1 := hT2.cell 1; have ri := hT2.inw)); (try have hv2 := hv2.up hu); (try have hi1 := hi1.up hu); (try have hi2 := hi2.up hu); (have q0 := hT.cell 0); (have q1 := hT.cell 1); (have qi := hT.inw)) | (go_at_call 62; (with_reducible refine (H3.out _ _ hv).mono ?_); rintro e w' ⟨rfl, hu⟩; (have hT := hT.up hu); (have hup := hup.trans hu); (have hv := hv.up hu); (try (have hT2 := hT2.up hu; have r0 := hT2.cell 0; have r1 := hT2.cell 1; have ri := hT2.inw)); (try have hv2 := hv2.up hu); (try have hi1 := hi1.up hu); (try have hi2 := hi2.up hu); (have q0 := hT.cell 0); (have q1 := hT.cell 1); (have qi := hT.inw)) | (go_at_call 63; (with_reducible refine (H4.out _ _ hv).mono ?_); rintro e w' ⟨rfl, hu⟩; (have hT := hT.up hu); (have hup := hup.trans hu); (have hv := hv.up hu); (try (have hT2 := hT2.up hu; have r0 := hT2.cell 0; have r1 := hT2.cell 1; have ri := hT2.inw)); (try have hv2 := hv2.up hu); (try have hi1 := hi1.up hu); (try have hi2 := hi2.up hu); (have q0 := hT.cell 0); (have q1 := hT.cell 1); (have qi := hT.inw)) | (go_at_call 58; (with_reducible refine (HL.out _ _ hv).mono ?_); rintro e w' ⟨rfl, hu⟩; (have hT := hT.up hu); (have hup := hup.trans hu); (have hv := hv.up hu); (try (have hT2 := hT2.up hu; have r0 := hT2.cell 0; have r1 := hT2.cell 1; have ri := hT2.inw)); (try have hv2 := hv2.up hu); (try have hi1 := hi1.up hu); (try have hi2 := hi2.up hu); (have q0 := hT.cell 0); (have q1 := hT.cell 1); (have qi := hT.inw)) | (go_at_call 58; (with_reducible refine (HM.out _ _ hv).mono ?_); rintro e w' ⟨rfl, hu⟩; (have hT := hT.up hu); (have hup := hup.trans hu); (have hv := hv.up hu); (try (have hT2 := hT2.up hu; have r0 := hT2.cell 0; have r1 := hT2.cell 1; have ri := hT2.inw)); (try have hv2 := hv2.up hu); (try have hi1 := hi1.up hu); (try have hi2 := hi2.up hu); (have q0 := hT.cell 0); (have q1 := hT.cell 1); (have qi := hT.inw)) | (go_at_call 58; (with_reducible refine (HZ.out _ _ hv).mono ?_); rintro e w' ⟨rfl, hu⟩; (have hT := hT.up hu); (have hup := hup.trans hu); (have hv := hv.up hu); (try (have hT2 := hT2.up hu; have r0 := hT2.cell 0; have r1 := hT2.cell 1; have ri := hT2.inw)); (try have hv2 := hv2.up hu); (try have hi1 := hi1.up hu); (try have hi2 := hi2.up hu); (have q0 := hT.cell 0); (have q1 := hT.cell 1); (have qi := hT.inw)) | (go_at_call 64; (with_reducible refine (HC.out _).mono ?_); rintro e w' ⟨rfl, hu⟩; (have hT := hT.up hu); (have hup := hup.trans hu); (have hv := hv.up hu); (try (have hT2 := hT2.up hu; have r0 := hT2.cell 0; have r1 := hT2.cell 1; have ri := hT2.inw)); (try have hv2 := hv2.up hu); (try have hi1 := hi1.up hu); (try have hi2 := hi2.up hu); (have q0 := hT.cell 0); (have q1 := hT.cell 1); (have qi := hT.inw)) | ((first | with_reducible refine wp_region_in x (by kernel_rfl) (by kernel_rfl) ?_ | with_reducible refine wp_region_here (by kernel_rfl) (by kernel_rfl) ?_); (repeat (go_big_quiet_step ((fail)))); refine wpQuiet_nil ?_; intro w' hw'; obtain ⟨x, rfl⟩ := hw'))
    go_ret
    exact ⟨rfl, hup.trans (by repeat' (first | (with_reducible exact Up.refl _) | (with_reducible assumption) | (with_reducible refine Up.alloc ?_ _) | (with_reducible refine Up.drew ?_) | (with_reducible refine Up.grow ?_ _) | (with_reducible refine Up.setCell ?_ (by (try simp); (try omega)) _)))⟩
end Go.Proofs.Ytdeoampkbbbleaa
