/- The law of the expected years: the walk. Condition: the code reads as bytes. -/
import Derived.Test.YtdeoampkbbbleaaDraw7
import Derived.Test.YtdeoampkbbbleaaMid
import Derived.Test.YtdeoampkbbbleaaLike
namespace Go.Proofs.Ytdeoampkbbbleaa
open Go.RowKit Pu
set_option linter.unusedVariables false
set_option linter.unusedSimpArgs false

theorem ey_law {T : Tab} (h : T.Ok) {k : Nat} (hk : k + 1 < T.n) : T.lv k % (eyB T k : Int) = 0 ∧ ∃ q : Int, T.lv k / (eyB T k : Int) = q ∧ (eyA T k : Int) * q = T.yrs k ∧ 0 ≤ q ∧ q ≤ 1000000 := by
  have hl := h.lv_pos hk
  have hb := h.lv_bd k
  have hy := h.yrs_bd k
  obtain ⟨l, hl2⟩ : ∃ l : Nat, T.lv k = l := ⟨(T.lv k).toNat, by omega⟩
  obtain ⟨y, hy2⟩ : ∃ y : Nat, T.yrs k = y := ⟨(T.yrs k).toNat, by omega⟩
  have e1 : eyB T k = fB y l := by unfold eyB; rw [hl2, hy2]; simp
  have e2 : eyA T k = fA y l := by unfold eyA; rw [hl2, hy2]; simp
  rw [e1, e2, hl2, hy2]
  have hl1 : 1 ≤ l := by omega
  have g1 := fA_quo (a := y) hl1
  have g2 := fB_mod (a := y) (b := l)
  have g3 := Nat.div_le_self l (fB y l)
  obtain ⟨q, hq⟩ : ∃ q, l / fB y l = q := ⟨_, rfl⟩
  rw [hq] at g1 g3
  refine ⟨by rw [← Int.natCast_emod, g2]; rfl, (q : Int), by rw [← Int.natCast_ediv, hq], by rw [← Int.natCast_mul, g1], by omega, by omega⟩
theorem ey_zero {T : Tab} (h : T.Ok) {k : Nat} (hk : T.n ≤ k + 2) : eyA T k = 0 := by
  unfold eyA
  rw [Tab.Ok.yrs_last hk]
  simp [fA]
set_option maxRecDepth 100000 in
set_option maxHeartbeats 8000000 in
theorem l_Expected (A : Option Addr) (n c : Nat) (w : World) (hI : InCode w A n c) : Calls Try.prog 8 #[.slice A n c] w (Ret w (.bool true)) := by
  by_cases hb : 4096 < n
  · have HB := Lib.hid (l_Big A n c true (by simp [hb]) (by have := hI.1; have := hI.2.1; omega))
    clear hI
    go_enter Try.func8, Try.ntmps8
    go_wp2_with (go_at_call 38; (with_reducible refine (HB.out _).mono ?_); rintro e w' ⟨rfl, rfl⟩)
    go_ret
    exact ⟨rfl, (by repeat' (first | (with_reducible exact Up.refl _) | (with_reducible assumption) | (with_reducible refine Up.alloc ?_ _) | (with_reducible refine Up.drew ?_) | (with_reducible refine Up.grow ?_ _) | (with_reducible refine Up.setCell ?_ (by (try simp); (try omega)) _)))⟩
  have HB := Lib.hid (l_Big A n c false (by simp [hb]) (by have := hI.1; have := hI.2.1; omega))
  have HI := Lib.hid hI
  have hn : n ≤ 4096 := by omega
  clear hI hb
  go_enter Try.func8, Try.ntmps8
  go_upto_region 4 with (first
    | (go_at_call 38; (with_reducible refine (HB.out _).mono ?_); rintro e w' ⟨rfl, rfl⟩)
    | (go_at_call 53; (with_reducible refine (s_DrawExpectedYears A n c hn _ HI.out).mono ?_); rintro e w2 ⟨T, A1, c1, age, rfl, hu2, hO⟩))
  have hu3 := Up.alloc (Up.refl w2) (.cells #[.int .i64 T.first, .slice A1 T.n c1] 31)
  have hup : Up w (w2.alloc (.cells #[.int .i64 T.first, .slice A1 T.n c1] 31)) := hu2.trans hu3
  have hT := Blk.new w2 31 #[.int .i64 T.first, .slice A1 T.n c1]
  have hv := hO.tab.up hu3
  generalize w2.alloc (.cells #[.int .i64 T.first, .slice A1 T.n c1] 31) = w3 at *
  generalize w2.heap.size = bT at *
  clear hu2 hu3 HB HI hO hn
  (have q0 := hT.cell 0); (have q1 := hT.cell 1); (have qi := hT.inw)
  have H1 := Lib.hid (i_ExpectedYears T age)
  have H2 := Lib.hid (s_ExpectedYears T age)
  have H3 := Lib.hid (i_MeanPay T age)
  have H4 := Lib.hid (s_MeanPay T age)
  by_cases hz : alC T age = 0
  case neg =>
    simp only [RetQ3_bad hz] at H1 H2 H3 H4
    (have hz1 : ((alC T age) != 0) = true := (by simpa using hz)); (have hz2 : ((alC T age) == 0) = false := (by simpa using hz))
    clear hz
    generalize alC T age = K at *
    go_wp2_with (first | (go_at_call 54; (with_reducible refine (H1.out _ _ hv).mono ?_); rintro e w' ⟨rfl, hu⟩; (have hT := hT.up hu); (have hup := hup.trans hu); (have hv := hv.up hu); (try (have hT2 := hT2.up hu; have r0 := hT2.cell 0; have r1 := hT2.cell 1; have ri := hT2.inw)); (try have hv2 := hv2.up hu); (try have hi1 := hi1.up hu); (try have hi2 := hi2.up hu); (have q0 := hT.cell 0); (have q1 := hT.cell 1); (have qi := hT.inw)) | (go_at_call 55; (with_reducible refine (H2.out _ _ hv).mono ?_); rintro e w' ⟨rfl, hu⟩; (have hT := hT.up hu); (have hup := hup.trans hu); (have hv := hv.up hu); (try (have hT2 := hT2.up hu; have r0 := hT2.cell 0; have r1 := hT2.cell 1; have ri := hT2.inw)); (try have hv2 := hv2.up hu); (try have hi1 := hi1.up hu); (try have hi2 := hi2.up hu); (have q0 := hT.cell 0); (have q1 := hT.cell 1); (have qi := hT.inw)) | (go_at_call 56; (with_reducible refine (H3.out _ _ hv).mono ?_); rintro e w' ⟨rfl, hu⟩; (have hT := hT.up hu); (have hup := hup.trans hu); (have hv := hv.up hu); (try (have hT2 := hT2.up hu; have r0 := hT2.cell 0; have r1 := hT2.cell 1; have ri := hT2.inw)); (try have hv2 := hv2.up hu); (try have hi1 := hi1.up hu); (try have hi2 := hi2.up hu); (have q0 := hT.cell 0); (have q1 := hT.cell 1); (have qi := hT.inw)) | (go_at_call 57; (with_reducible refine (H4.out _ _ hv).mono ?_); rintro e w' ⟨rfl, hu⟩; (have hT := hT.up hu); (have hup := hup.trans hu); (have hv := hv.up hu); (try (have hT2 := hT2.up hu; have r0 := hT2.cell 0; have r1 := hT2.cell 1; have ri := hT2.inw)); (try have hv2 := hv2.up hu); (try have hi1 := hi1.up hu); (try have hi2 := hi2.up hu); (have q0 := hT.cell 0); (have q1 := hT.cell 1); (have qi := hT.inw)))
    go_ret
    exact ⟨rfl, hup.trans (by repeat' (first | (with_reducible exact Up.refl _) | (with_reducible assumption) | (with_reducible refine Up.alloc ?_ _) | (with_reducible refine Up.drew ?_) | (with_reducible refine Up.grow ?_ _) | (with_reducible refine Up.setCell ?_ (by (try simp); (try omega)) _)))⟩
  obtain ⟨hT1, k, rfl, hk, hkn⟩ := alC_ok hz
  have q1_ := hT1.lo; have q2_ := hT1.hi; have q3_ := hT1.n120; have q4_ := hT1.fin
  have HL := i_LivesAt T (T.first + k)
  simp only [aC_in hT1 hk, RetQ_ok, ix_k] at HL
  have HN := i_LivesAt T (T.first + ((k + 1 : Nat) : Int))
  simp only [aC_in hT1 (show T.first + ((k + 1 : Nat) : Int) ≤ 150 by omega), RetQ_ok, ix_k] at HN
  rw [show T.first + ((k + 1 : Nat) : Int) = T.first + k + 1 from by omega] at HN
  simp only [hz, RetQ3_ok, ix_k] at H1 H2 H3 H4
  have eb := ey_bd hT1 hkn
  obtain ⟨l1, q, l2, l3, l4, l5⟩ := ey_law hT1 hkn
  have lb := hT1.lv_bd k
  have nb := hT1.lv_bd (k + 1)
  have hage : T.first + k < 150 := by omega
  have i0 : IntKind.i64.wrap (T.first + k + 1) = T.first + k + 1 := IntWalk.i64_in _ (by omega)
  have i1 : IntKind.i64.wrap ((eyA T k : Int) + (eyB T k : Int)) = ((eyA T k + eyB T k : Nat) : Int) := by rw [IntWalk.i64_in _ (by omega)]; omega
  have i2 : (T.lv k).tmod (eyB T k : Int) = 0 := by rw [Int.tmod_eq_emod_of_nonneg (by omega), l1]
  have i3 : IntKind.i64.wrap 0 = 0 := rfl
  have b0 : ((eyB T k : Int) == 0) = false := by simp; omega
  have b1 : ¬ (eyB T k : Int) = 0 := by omega
  by_cases hk2 : T.n ≤ k + 2
  · have ez := ey_zero hT1 hk2
    have nz : T.lv (k + 1) = 0 := hT1.end_ (by omega)
    rw [nz] at HN
    clear i1
    simp only [ez, Nat.zero_add] at H1 H2 H3 H4
    have i1 : IntKind.i64.wrap (eyB T k : Int) = (eyB T k : Int) := IntWalk.i64_in _ (by omega)
    generalize eyB T k = B at *
    generalize T.lv k = LV at *
    clear hz l4 l5 eb lb nb ez nz
    replace HL := Lib.hid HL
    replace HN := Lib.hid HN
    go_wp2_with (first | (go_at_call 54; (with_reducible refine (H1.out _ _ hv).mono ?_); rintro e w' ⟨rfl, hu⟩; (have hT := hT.up hu); (have hup := hup.trans hu); (have hv := hv.up hu); (try (have hT2 := hT2.up hu; have r0 := hT2.cell 0; have r1 := hT2.cell 1; have ri := hT2.inw)); (try have hv2 := hv2.up hu); (try have hi1 := hi1.up hu); (try have hi2 := hi2.up hu); (have q0 := hT.cell 0); (have q1 := hT.cell 1); (have qi := hT.inw)) | (go_at_call 55; (with_reducible refine (H2.out _ _ hv).mono ?_); rintro e w' ⟨rfl, hu⟩; (have hT := hT.up hu); (have hup := hup.trans hu); (have hv := hv.up hu); (try (have hT2 := hT2.up hu; have r0 := hT2.cell 0; have r1 := hT2.cell 1; have ri := hT2.inw)); (try have hv2 := hv2.up hu); (try have hi1 := hi1.up hu); (try have hi2 := hi2.up hu); (have q0 := hT.cell 0); (have q1 := hT.cell 1); (have qi := hT.inw)) | (go_at_call 56; (with_reducible refine (H3.out _ _ hv).mono ?_); rintro e w' ⟨rfl, hu⟩; (have hT := hT.up hu); (have hup := hup.trans hu); (have hv := hv.up hu); (try (have hT2 := hT2.up hu; have r0 := hT2.cell 0; have r1 := hT2.cell 1; have ri := hT2.inw)); (try have hv2 := hv2.up hu); (try have hi1 := hi1.up hu); (try have hi2 := hi2.up hu); (have q0 := hT.cell 0); (have q1 := hT.cell 1); (have qi := hT.inw)) | (go_at_call 57; (with_reducible refine (H4.out _ _ hv).mono ?_); rintro e w' ⟨rfl, hu⟩; (have hT := hT.up hu); (have hup := hup.trans hu); (have hv := hv.up hu); (try (have hT2 := hT2.up hu; have r0 := hT2.cell 0; have r1 := hT2.cell 1; have ri := hT2.inw)); (try have hv2 := hv2.up hu); (try have hi1 := hi1.up hu); (try have hi2 := hi2.up hu); (have q0 := hT.cell 0); (have q1 := hT.cell 1); (have qi := hT.inw)) | (go_at_call 58; (with_reducible refine (HL.out _ _ hv).mono ?_); rintro e w' ⟨rfl, hu⟩; (have hT := hT.up hu); (have hup := hup.trans hu); (have hv := hv.up hu); (try (have hT2 := hT2.up hu; have r0 := hT2.cell 0; have r1 := hT2.cell 1; have ri := hT2.inw)); (try have hv2 := hv2.up hu); (try have hi1 := hi1.up hu); (try have hi2 := hi2.up hu); (have q0 := hT.cell 0); (have q1 := hT.cell 1); (have qi := hT.inw)) | (go_at_call 58; (with_reducible refine (HN.out _ _ hv).mono ?_); rintro e w' ⟨rfl, hu⟩; (have hT := hT.up hu); (have hup := hup.trans hu); (have hv := hv.up hu); (try (have hT2 := hT2.up hu; have r0 := hT2.cell 0; have r1 := hT2.cell 1; have ri := hT2.inw)); (try have hv2 := hv2.up hu); (try have hi1 := hi1.up hu); (try have hi2 := hi2.up hu); (have q0 := hT.cell 0); (have q1 := hT.cell 1); (have qi := hT.inw)))
    go_ret
    exact ⟨rfl, hup.trans (by repeat' (first | (with_reducible exact Up.refl _) | (with_reducible assumption) | (with_reducible refine Up.alloc ?_ _) | (with_reducible refine Up.drew ?_) | (with_reducible refine Up.grow ?_ _) | (with_reducible refine Up.setCell ?_ (by (try simp); (try omega)) _)))⟩
  have hkn2 : k + 1 + 1 < T.n := by omega
  have HE := i_ExpectedYears T (T.first + ((k + 1 : Nat) : Int))
  simp only [alC_at hT1 (show T.first + ((k + 1 : Nat) : Int) ≤ 150 by omega) hkn2, RetQ3_ok, ix_k] at HE
  rw [show T.first + ((k + 1 : Nat) : Int) = T.first + k + 1 from by omega] at HE
  replace HE := Lib.hid HE
  replace HL := Lib.hid HL
  replace HN := Lib.hid HN
  have ec := ey_bd hT1 hkn2
  have ln := hT1.lv_pos hkn2
  obtain ⟨m1, p, m2, m3, m4, m5⟩ := ey_law hT1 hkn2
  have ys := Tab.Ok.yrs_step hT1 (show k + 2 < T.n by omega)
  have yb := hT1.yrs_bd k
  have yb1 := hT1.yrs_bd (k + 1)
  have r2 : (T.lv k).tdiv (eyB T k : Int) = q := by rw [Int.tdiv_eq_ediv_of_nonneg (by omega), l2]
  have r3 : IntKind.i64.wrap q = q := IntWalk.i64_in _ (by omega)
  have r4 : IntKind.i64.wrap ((eyA T k : Int) * q) = T.yrs k := by rw [l3]; exact IntWalk.i64_in _ (by omega)
  have r5 : (T.lv (k + 1)).tmod (eyB T (k + 1) : Int) = 0 := by rw [Int.tmod_eq_emod_of_nonneg (by omega), m1]
  have r6 : (T.lv (k + 1)).tdiv (eyB T (k + 1) : Int) = p := by rw [Int.tdiv_eq_ediv_of_nonneg (by omega), m2]
  have r7 : IntKind.i64.wrap p = p := IntWalk.i64_in _ (by omega)
  have r8 : IntKind.i64.wrap ((eyA T (k + 1) : Int) * p) = T.yrs (k + 1) := by rw [m3]; exact IntWalk.i64_in _ (by omega)
  have r9 : IntKind.i64.wrap (T.lv (k + 1) + T.yrs (k + 1)) = T.yrs k := by rw [ys]; exact IntWalk.i64_in _ (by omega)
  have n0 : (T.lv (k + 1) == 0) = false := by simp; omega
  have n1 : ¬ T.lv (k + 1) = 0 := by omega
  have d0 : ((eyB T (k + 1) : Int) == 0) = false := by simp; omega
  have d1 : ¬ (eyB T (k + 1) : Int) = 0 := by omega
  have d2 : (0 : Int) < (eyB T (k + 1) : Int) := by omega
  have d3 : 0 < eyB T (k + 1) := by omega
  generalize eyB T (k + 1) = D at *
  generalize eyA T (k + 1) = C at *
  generalize eyB T k = B at *
  generalize eyA T k = X at *
  generalize T.yrs (k + 1) = YN at *
  generalize T.yrs k = Y at *
  generalize T.lv (k + 1) = LN at *
  generalize T.lv k = LV at *
  clear hz l3 l4 l5 m3 m4 m5 eb ec lb nb ys yb yb1 ln
  go_wp2_with (first | (go_at_call 54; (with_reducible refine (H1.out _ _ hv).mono ?_); rintro e w' ⟨rfl, hu⟩; (have hT := hT.up hu); (have hup := hup.trans hu); (have hv := hv.up hu); (try (have hT2 := hT2.up hu; have r0 := hT2.cell 0; have r1 := hT2.cell 1; have ri := hT2.inw)); (try have hv2 := hv2.up hu); (try have hi1 := hi1.up hu); (try have hi2 := hi2.up hu); (have q0 := hT.cell 0); (have q1 := hT.cell 1); (have qi := hT.inw)) | (go_at_call 54; (with_reducible refine (HE.out _ _ hv).mono ?_); rintro e w' ⟨rfl, hu⟩; (have hT := hT.up hu); (have hup := hup.trans hu); (have hv := hv.up hu); (try (have hT2 := hT2.up hu; have r0 := hT2.cell 0; have r1 := hT2.cell 1; have ri := hT2.inw)); (try have hv2 := hv2.up hu); (try have hi1 := hi1.up hu); (try have hi2 := hi2.up hu); (have q0 := hT.cell 0); (have q1 := hT.cell 1); (have qi := hT.inw)) | (go_at_call 55; (with_reducible refine (H2.out _ _ hv).mono ?_); rintro e w' ⟨rfl, hu⟩; (have hT := hT.up hu); (have hup := hup.trans hu); (have hv := hv.up hu); (try (have hT2 := hT2.up hu; have r0 := hT2.cell 0; have r1 := hT2.cell 1; have ri := hT2.inw)); (try have hv2 := hv2.up hu); (try have hi1 := hi1.up hu); (try have hi2 := hi2.up hu); (have q0 := hT.cell 0); (have q1 := hT.cell 1); (have qi := hT.inw)) | (go_at_call 56; (with_reducible refine (H3.out _ _ hv).mono ?_); rintro e w' ⟨rfl, hu⟩; (have hT := hT.up hu); (have hup := hup.trans hu); (have hv := hv.up hu); (try (have hT2 := hT2.up hu; have r0 := hT2.cell 0; have r1 := hT2.cell 1; have ri := hT2.inw)); (try have hv2 := hv2.up hu); (try have hi1 := hi1.up hu); (try have hi2 := hi2.up hu); (have q0 := hT.cell 0); (have q1 := hT.cell 1); (have qi := hT.inw)) | (go_at_call 57; (with_reducible refine (H4.out _ _ hv).mono ?_); rintro e w' ⟨rfl, hu⟩; (have hT := hT.up hu); (have hup := hup.trans hu); (have hv := hv.up hu); (try (have hT2 := hT2.up hu; have r0 := hT2.cell 0; have r1 := hT2.cell 1; have ri := hT2.inw)); (try have hv2 := hv2.up hu); (try have hi1 := hi1.up hu); (try have hi2 := hi2.up hu); (have q0 := hT.cell 0); (have q1 := hT.cell 1); (have qi := hT.inw)) | (go_at_call 58; (with_reducible refine (HL.out _ _ hv).mono ?_); rintro e w' ⟨rfl, hu⟩; (have hT := hT.up hu); (have hup := hup.trans hu); (have hv := hv.up hu); (try (have hT2 := hT2.up hu; have r0 := hT2.cell 0; have r1 := hT2.cell 1; have ri := hT2.inw)); (try have hv2 := hv2.up hu); (try have hi1 := hi1.up hu); (try have hi2 := hi2.up hu); (have q0 := hT.cell 0); (have q1 := hT.cell 1); (have qi := hT.inw)) | (go_at_call 58; (with_reducible refine (HN.out _ _ hv).mono ?_); rintro e w' ⟨rfl, hu⟩; (have hT := hT.up hu); (have hup := hup.trans hu); (have hv := hv.up hu); (try (have hT2 := hT2.up hu; have r0 := hT2.cell 0; have r1 := hT2.cell 1; have ri := hT2.inw)); (try have hv2 := hv2.up hu); (try have hi1 := hi1.up hu); (try have hi2 := hi2.up hu); (have q0 := hT.cell 0); (have q1 := hT.cell 1); (have qi := hT.inw)) | ((first | with_reducible refine wp_region_in x (by kernel_rfl) (by kernel_rfl) ?_ | with_reducible refine wp_region_here (by kernel_rfl) (by kernel_rfl) ?_); (repeat (go_big_quiet_step ((fail)))); refine wpQuiet_nil ?_; intro w' hw'; obtain ⟨x, rfl⟩ := hw'))
  go_ret
  exact ⟨rfl, hup.trans (by repeat' (first | (with_reducible exact Up.refl _) | (with_reducible assumption) | (with_reducible refine Up.alloc ?_ _) | (with_reducible refine Up.drew ?_) | (with_reducible refine Up.grow ?_ _) | (with_reducible refine Up.setCell ?_ (by (try simp); (try omega)) _)))⟩
end Go.Proofs.Ytdeoampkbbbleaa
