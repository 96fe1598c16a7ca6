/- The law of assurances: the walk. Condition: the code reads as bytes. -/
import Derived.Test.YtdeoampkbbbleaaDraw7
import Derived.Test.YtdeoampkbbbleaaLike
import Derived.Test.YtdeoampkbbbleaaI07n
import Derived.Test.YtdeoampkbbbleaaPureL
namespace Go.Proofs.Ytdeoampkbbbleaa
open Go.RowKit Pu
set_option linter.unusedVariables false
set_option linter.unusedSimpArgs false

theorem np_each {U : Tab} {r x m s : Int} (h : npC U r x m s = 0) : ∃ k : Nat, x = U.first + k ∧ 0 ≤ U.first ∧ U.first ≤ 100 ∧ k ≤ 150 ∧ (npL U r x m s).length ≤ 120 ∧ ∀ j : Nat, j < (npL U r x m s).length → apC U r 1 (U.first + k + j) 1 s = 0 ∧ apV U r 1 (U.first + k + j) 1 s = (npL U r x m s).getD j 0 := by
  have ha : apC U r 1 x m s = 0 := by
    unfold npC at h
    by_cases h0 : apC U r 1 x m s = 0
    · exact h0
    · rw [if_neg h0] at h; exact absurd h h0
  have hl : U.D r (ix U x + m.toNat - 1) ≠ 0 := by
    intro e
    unfold npC at h
    rw [if_pos ha, if_pos e] at h
    cases h
  have ha' := ha
  unfold apC at ha
  obtain ⟨hU, h0, h1, hb, _, _, k, n, rfl, rfl, hkn, hn, hf, hd⟩ := code7_ok ha
  obtain ⟨z1, ⟨z2, z4, z5, z6⟩, z3⟩ := code6_zero.1 (show code6 U r (U.first + k) ((inR s 1 100000000) && fits 1 n) n = 0 from ha)
  have hn1 : 1 ≤ n := by omega
  have q1 := hU.lo; have q2 := hU.hi
  rw [ix_k, Int.toNat_natCast] at hl
  have el : (npL U r (U.first + k) n s) = (List.range n).map (npG U r k s) := by unfold npL; rw [if_pos h, ix_k, Int.toNat_natCast]
  refine ⟨k, rfl, q1, q2, by omega, by rw [el]; simp; omega, fun j hj => ?_⟩
  rw [el] at hj ⊢
  simp at hj
  have dl := hU.D_le h0 (k + j) (n - 1 - j)
  rw [show k + j + (n - 1 - j) = k + n - 1 from by omega] at dl
  have db := hU.D_bd h0 (k + n - 1)
  have e1 : U.first + (k : Int) + (j : Int) = U.first + ((k + j : Nat) : Int) := by omega
  rw [e1]
  obtain ⟨y1, y2, y3, y4, y5⟩ := code5_zero.1 z1
  refine ⟨?_, ?_⟩
  · unfold apC code7
    refine code6_zero.2 ⟨code5_zero.2 ⟨hU, h0, h1, by omega, by omega⟩, ⟨by rw [hb]; rfl, by omega, by omega, by omega⟩, ?_⟩
    rw [show (U.first + ((k + j : Nat) : Int) - U.first).toNat = k + j from by omega]
    omega
  · unfold apV
    rw [ix_k]
    have ms := hU.M_step (r := r) (k + j)
    have et : U.top r 1 (k + j) (1 : Int).toNat = U.C r (k + j) := by
      show U.M r (k + j) - U.M r (k + j + 1) = _
      omega
    rw [et]
    simp [hj, npG]
theorem end_law {T : Tab} {r age n m : Int} (h : tpC T r age n m = 0) : apC T r 2 age n m = 0 ∧ 0 ≤ apV T r 1 age n m + apV T r 3 age n m - apV T r 2 age n m ∧ apV T r 1 age n m + apV T r 3 age n m - apV T r 2 age n m ≤ 1 ∧ (0 ≤ apV T r 1 age n m ∧ apV T r 1 age n m ≤ 200000000) ∧ (0 ≤ apV T r 3 age n m ∧ apV T r 3 age n m ≤ 200000000) := by
  refine ⟨h, ?_⟩
  unfold tpC at h
  obtain ⟨hT, h0, h1, hb, _, _, k, n, rfl, rfl, hkn, hn, hf, hd⟩ := code7_ok h
  have bm := inR_true.1 hb
  unfold apV
  rw [ix_k, Int.toNat_natCast]
  have e : T.top r 2 k n = T.top r 1 k n + T.top r 3 k n := rfl
  rw [e]
  have a := up_parts (m := m) (A := T.top r 1 k n) (B := T.top r 3 k n) hd
  have t1 := hT.top_bd h0 1 k n
  have t3 := hT.top_bd h0 3 k n
  have b1 := up_le_mul (m := m) (A := T.top r 1 k n) (n := 2) hd (by omega) (by omega)
  have b3 := up_le_mul (m := m) (A := T.top r 3 k n) (n := 2) hd (by omega) (by omega)
  have c1 := up_nonneg (m := m) (A := T.top r 1 k n) hd (by omega) (by omega)
  have c3 := up_nonneg (m := m) (A := T.top r 3 k n) hd (by omega) (by omega)
  exact ⟨a.1, a.2, ⟨c1, by omega⟩, c3, by omega⟩
set_option maxRecDepth 100000 in
set_option maxHeartbeats 8000000 in
theorem l_Assurances (A : Option Addr) (n c : Nat) (w : World) (hI : InCode w A n c) : Calls Try.prog 15 #[.slice A n c] w (Ret w (.bool true)) := by
  by_cases hb : 4096 < n
  · have HB := Lib.hid (l_Big A n c true (by simp [hb]) (by have := hI.1; have := hI.2.1; omega))
    clear hI
    go_enter Try.func15, Try.ntmps15
    go_wp2_with (go_at_call 38; (with_reducible refine (HB.out _).mono ?_); rintro e w' ⟨rfl, rfl⟩)
    go_ret
    exact ⟨rfl, (by repeat' (first | (with_reducible exact Up.refl _) | (with_reducible assumption) | (with_reducible refine Up.alloc ?_ _) | (with_reducible refine Up.drew ?_) | (with_reducible refine Up.grow ?_ _) | (with_reducible refine Up.setCell ?_ (by (try simp); (try omega)) _)))⟩
  have HB := Lib.hid (l_Big A n c false (by simp [hb]) (by have := hI.1; have := hI.2.1; omega))
  have HI := Lib.hid hI
  have hn : n ≤ 4096 := by omega
  clear hI hb
  go_enter Try.func15, Try.ntmps15
  go_upto_region 4 with (first
    | (go_at_call 38; (with_reducible refine (HB.out _).mono ?_); rintro e w' ⟨rfl, rfl⟩)
    | (go_at_call 115; (with_reducible refine (s_DrawTermPart A n c hn _ HI.out).mono ?_); rintro e w2 ⟨T, A1, c1, r, age, yrs, m, rfl, hu2, hO⟩))
  have HI2 := HI
  have hn2 := hn
  have hu3 := Up.alloc (Up.refl w2) (.cells #[.int .i64 T.first, .slice A1 T.n c1] 31)
  have hup : Up w (w2.alloc (.cells #[.int .i64 T.first, .slice A1 T.n c1] 31)) := hu2.trans hu3
  have hT := Blk.new w2 31 #[.int .i64 T.first, .slice A1 T.n c1]
  have hv := hO.tab.up hu3
  generalize w2.alloc (.cells #[.int .i64 T.first, .slice A1 T.n c1] 31) = w3 at *
  generalize w2.heap.size = bT at *
  clear hu2 hu3 HB HI hO hn
  (have q0 := hT.cell 0); (have q1 := hT.cell 1); (have qi := hT.inw)
  have H1 := Lib.hid (i_TP T r age yrs m)
  have H2 := Lib.hid (s_TP T r age yrs m)
  have HE := Lib.hid (i_AP T r 2 age yrs m)
  have FA0 := fun h : tpC T r age yrs m = 0 => end_law h
  have hke : apC T r 2 age yrs m = tpC T r age yrs m := rfl
  simp only [RetQ3] at H1 H2
  simp only [RetQ, hke] at HE
  clear hke
  generalize tpC T r age yrs m = K1 at *
  have FA : K1 = 0 → 0 ≤ (if K1 = 0 then apV T r 1 age yrs m else 0) + (if K1 = 0 then apV T r 3 age yrs m else 0) - (if K1 = 0 then apV T r 2 age yrs m else 0) ∧ (if K1 = 0 then apV T r 1 age yrs m else 0) + (if K1 = 0 then apV T r 3 age yrs m else 0) - (if K1 = 0 then apV T r 2 age yrs m else 0) ≤ 1 ∧
      (0 ≤ (if K1 = 0 then apV T r 1 age yrs m else 0) ∧ (if K1 = 0 then apV T r 1 age yrs m else 0) ≤ 200000000) ∧ (0 ≤ (if K1 = 0 then apV T r 3 age yrs m else 0) ∧ (if K1 = 0 then apV T r 3 age yrs m else 0) ≤ 200000000) := fun h => by
    rw [if_pos h, if_pos h, if_pos h]; exact (FA0 h).2
  clear FA0
  generalize (if K1 = 0 then apV T r 1 age yrs m else 0) = pa at *
  generalize (if K1 = 0 then apV T r 3 age yrs m else 0) = pb at *
  generalize (if K1 = 0 then apV T r 2 age yrs m else 0) = pe at *
  replace FA := Lib.hid FA
  go_upto_region 7 with (first | (go_at_call 116; (with_reducible refine (H1.out _ _ hv).mono ?_); rintro e w' ⟨rfl, hu⟩; (have hT := hT.up hu); (have hup := hup.trans hu); (have hv := hv.up hu); (try (have hT2 := hT2.up hu; have r0 := hT2.cell 0; have r1 := hT2.cell 1; have ri := hT2.inw)); (try have hv2 := hv2.up hu); (try have hi1 := hi1.up hu); (try have hi2 := hi2.up hu); (try have hq9 := hq9.trans hu); (have q0 := hT.cell 0); (have q1 := hT.cell 1); (have qi := hT.inw)) | (go_at_call 117; (with_reducible refine (H2.out _ _ hv).mono ?_); rintro e w' ⟨rfl, hu⟩; (have hT := hT.up hu); (have hup := hup.trans hu); (have hv := hv.up hu); (try (have hT2 := hT2.up hu; have r0 := hT2.cell 0; have r1 := hT2.cell 1; have ri := hT2.inw)); (try have hv2 := hv2.up hu); (try have hi1 := hi1.up hu); (try have hi2 := hi2.up hu); (try have hq9 := hq9.trans hu); (have q0 := hT.cell 0); (have q1 := hT.cell 1); (have qi := hT.inw)) | (go_at_call 118; (with_reducible refine (s_DrawNaturalPremiums A n c hn2 _ (HI2.out.up hup)).mono ?_); rintro e w5 ⟨U, A2, c2, r2, x, n2, am, rfl, hu, hO2⟩; (have hT := hT.up hu); (have hup := hup.trans hu); (have hv := hv.up hu); (try (have hT2 := hT2.up hu; have r0 := hT2.cell 0; have r1 := hT2.cell 1; have ri := hT2.inw)); (try have hv2 := hv2.up hu); (try have hi1 := hi1.up hu); (try have hi2 := hi2.up hu); (try have hq9 := hq9.trans hu); (have q0 := hT.cell 0); (have q1 := hT.cell 1); (have qi := hT.inw)))
  have hu6 := Up.alloc (Up.refl w5) (.cells #[.int .i64 U.first, .slice A2 U.n c2] 31)
  have hT := hT.up hu6
  have hv := hv.up hu6
  have hup := hup.trans hu6
  have hT2 := Blk.new w5 31 #[.int .i64 U.first, .slice A2 U.n c2]
  have hv2 := hO2.tab.up hu6
  generalize w5.alloc (.cells #[.int .i64 U.first, .slice A2 U.n c2] 31) = w6 at *
  generalize w5.heap.size = bU at *
  clear hu6 hO2 HI2 hn2 hu q0 q1 qi
  (have q0 := hT.cell 0); (have q1 := hT.cell 1); (have qi := hT.inw)
  have r0 := hT2.cell 0; have r1 := hT2.cell 1; have ri := hT2.inw
  have H3 := Lib.hid (i_NP U r2 x n2 am)
  have H4 := Lib.hid (s_NP U r2 x n2 am)
  have hxl := npL_len U r2 x n2 am
  have F := fun h3 : npC U r2 x n2 am = 0 => np_each h3
  generalize npC U r2 x n2 am = K3 at *
  generalize npL U r2 x n2 am = xs at *
  replace F := Lib.hid F
  go_upto_region 12 with (first | (go_at_call 119; (with_reducible refine (H3.out _ _ hv2).mono ?_); rintro e w7 ⟨v1, rfl, hu, ho1⟩; obtain ⟨A3, c3, rfl, hi1⟩ := ho1.rd.fn; (have hT := hT.up hu); (have hup := hup.trans hu); (have hv := hv.up hu); (try (have hT2 := hT2.up hu; have r0 := hT2.cell 0; have r1 := hT2.cell 1; have ri := hT2.inw)); (try have hv2 := hv2.up hu); (try have hi1 := hi1.up hu); (try have hi2 := hi2.up hu); (try have hq9 := hq9.trans hu); (have q0 := hT.cell 0); (have q1 := hT.cell 1); (have qi := hT.inw)) | (go_at_call 120; (with_reducible refine (H4.out _ _ hv2).mono ?_); rintro e w8 ⟨v2, rfl, hu, ho2⟩; obtain ⟨A4, c4, rfl, hi2⟩ := ho2.rd.fn; (have hT := hT.up hu); (have hup := hup.trans hu); (have hv := hv.up hu); (try (have hT2 := hT2.up hu; have r0 := hT2.cell 0; have r1 := hT2.cell 1; have ri := hT2.inw)); (try have hv2 := hv2.up hu); (try have hi1 := hi1.up hu); (try have hi2 := hi2.up hu); (try have hq9 := hq9.trans hu); (have q0 := hT.cell 0); (have q1 := hT.cell 1); (have qi := hT.inw)) | (go_at_call 50; (with_reducible refine (l_Like A3 A4 xs.length c3 c4 (fun i => xs.getD i 0) hxl _ hi1 hi2).mono ?_); rintro e w9 ⟨rfl, hu⟩; (have hT := hT.up hu); (have hup := hup.trans hu); (have hv := hv.up hu); (try (have hT2 := hT2.up hu; have r0 := hT2.cell 0; have r1 := hT2.cell 1; have ri := hT2.inw)); (try have hv2 := hv2.up hu); (try have hi1 := hi1.up hu); (try have hi2 := hi2.up hu); (try have hq9 := hq9.trans hu); (have q0 := hT.cell 0); (have q1 := hT.cell 1); (have qi := hT.inw)))
  by_cases k3 : K3 = 0
  case neg =>
    have k31 : (K3 != 0) = true := by simpa using k3
    have k32 : (K3 == 0) = false := by simpa using k3
    clear k3
    go_loopw [23] (fun i wr => ∃ (z : Grow w9), i = .int .i64 0 ∧ wr = z.to) (fun _ _ => 0)
    case atStart => exact ⟨⟨w9, Below.refl _ _⟩, rfl, rfl⟩
    case round =>
      obtain ⟨z, rfl, rfl⟩ := hrel
      have hu : Up w9 z.to := z.below
      (have hT := hT.up hu); (have hup := hup.trans hu); (have hv := hv.up hu); (try (have hT2 := hT2.up hu; have r0 := hT2.cell 0; have r1 := hT2.cell 1; have ri := hT2.inw)); (try have hv2 := hv2.up hu); (try have hi1 := hi1.up hu); (try have hi2 := hi2.up hu); (try have hq9 := hq9.trans hu); (have q0 := hT.cell 0); (have q1 := hT.cell 1); (have qi := hT.inw)
      clear hu
      generalize z.to = wz at *
      by_cases hz : K1 = 0
      case neg =>
        (have hz1 : ((K1) != 0) = true := (by simpa using hz)); (have hz2 : ((K1) == 0) = false := (by simpa using hz))
        clear hz
        go_wp2
        go_ret
        exact ⟨rfl, hup.trans (by repeat' (first | (with_reducible exact Up.refl _) | (with_reducible assumption) | (with_reducible refine Up.alloc ?_ _) | (with_reducible refine Up.drew ?_) | (with_reducible refine Up.grow ?_ _) | (with_reducible refine Up.setCell ?_ (by (try simp); (try omega)) _)))⟩
      obtain ⟨e1, e2, e3, e4⟩ := FA.out hz
      subst hz
      have j1 : IntKind.i64.wrap (pa + pb) = pa + pb := IntWalk.i64_in _ (by omega)
      have j2 : IntKind.i64.wrap (pa + pb - pe) = pa + pb - pe := IntWalk.i64_in _ (by omega)
      go_wp2_with (first | (go_at_call 121; (with_reducible refine (HE.out _ _ hv).mono ?_); rintro e w' ⟨rfl, hu⟩; (have hT := hT.up hu); (have hup := hup.trans hu); (have hv := hv.up hu); (try (have hT2 := hT2.up hu; have r0 := hT2.cell 0; have r1 := hT2.cell 1; have ri := hT2.inw)); (try have hv2 := hv2.up hu); (try have hi1 := hi1.up hu); (try have hi2 := hi2.up hu); (try have hq9 := hq9.trans hu); (have q0 := hT.cell 0); (have q1 := hT.cell 1); (have qi := hT.inw)) | ((first | with_reducible refine wp_region_in x (by kernel_rfl) (by kernel_rfl) ?_ | with_reducible refine wp_region_here (by kernel_rfl) (by kernel_rfl) ?_); (repeat (go_big_quiet_step ((fail)))); refine wpQuiet_nil ?_; intro w' hw'; obtain ⟨x, rfl⟩ := hw'))
      go_ret
      exact ⟨rfl, hup.trans (by repeat' (first | (with_reducible exact Up.refl _) | (with_reducible assumption) | (with_reducible refine Up.alloc ?_ _) | (with_reducible refine Up.drew ?_) | (with_reducible refine Up.grow ?_ _) | (with_reducible refine Up.setCell ?_ (by (try simp); (try omega)) _)))⟩
  obtain ⟨kx, rfl, f0, f1, f2, f3, HP⟩ := F.out k3
  subst k3
  replace HP := Lib.hid HP
  go_loopw [23] (fun i wr => ∃ (j : Nat) (z : Grow w9), j ≤ xs.length ∧ i = .int .i64 j ∧ wr = z.to) (fun i _ => xs.length - (intOf i).toNat)
  case atStart => exact ⟨0, ⟨w9, Below.refl _ _⟩, Nat.zero_le _, rfl, rfl⟩
  case round =>
    obtain ⟨j, z, hj, rfl, rfl⟩ := hrel
    have hu : Up w9 z.to := z.below
    have hq9 := hu
    (have hT := hT.up hu); (have hup := hup.trans hu); (have hv := hv.up hu); (try (have hT2 := hT2.up hu; have r0 := hT2.cell 0; have r1 := hT2.cell 1; have ri := hT2.inw)); (try have hv2 := hv2.up hu); (try have hi1 := hi1.up hu); (try have hi2 := hi2.up hu); (try have hq9 := hq9.trans hu); (have q0 := hT.cell 0); (have q1 := hT.cell 1); (have qi := hT.inw)
    clear hu
    generalize z.to = wz at *
    by_cases hlt : j < xs.length
    · obtain ⟨g1, g2⟩ := HP.out j hlt
      have HPJ := i_AP U r2 1 (U.first + kx + j) 1 am
      simp only [RetQ, g1, g2, if_true] at HPJ
      replace HPJ := Lib.hid HPJ
      clear g1 g2
      obtain ⟨b3, off3, eA, hlb3, hc3⟩ := hi1 j hlt
      subst eA
      simp only at hc3
      generalize xs.getD j 0 = xj at *
      have i1 : IntKind.i64.wrap (U.first + kx + j) = U.first + kx + j := IntWalk.i64_in _ (by omega)
      go_wp2_with (go_at_call 121; (with_reducible refine (HPJ.out _ _ hv2).mono ?_); rintro e wy ⟨rfl, hu⟩; (have hT := hT.up hu); (have hup := hup.trans hu); (have hv := hv.up hu); (try (have hT2 := hT2.up hu; have r0 := hT2.cell 0; have r1 := hT2.cell 1; have ri := hT2.inw)); (try have hv2 := hv2.up hu); (try have hi1 := hi1.up hu); (try have hi2 := hi2.up hu); (try have hq9 := hq9.trans hu); (have q0 := hT.cell 0); (have q1 := hT.cell 1); (have qi := hT.inw); have hc3b : wy.cell? ⟨b3, off3 + j, none⟩ = some (.int .i64 xj) := (hu.cell (p := ⟨b3, off3 + j, none⟩) hlb3).trans hc3; have iw3 : InW wy b3 := Nat.lt_of_lt_of_le hlb3 hu.size)
      go_roundw
      case rel => exact ⟨j + 1, ⟨wy, hq9⟩, by omega, by go_num, rfl⟩
      case measure => simp [intOf]; omega
    · skip
      by_cases hz : K1 = 0
      case neg =>
        (have hz1 : ((K1) != 0) = true := (by simpa using hz)); (have hz2 : ((K1) == 0) = false := (by simpa using hz))
        clear hz
        go_wp2
        go_ret
        exact ⟨rfl, hup.trans (by repeat' (first | (with_reducible exact Up.refl _) | (with_reducible assumption) | (with_reducible refine Up.alloc ?_ _) | (with_reducible refine Up.drew ?_) | (with_reducible refine Up.grow ?_ _) | (with_reducible refine Up.setCell ?_ (by (try simp); (try omega)) _)))⟩
      obtain ⟨e1, e2, e3, e4⟩ := FA.out hz
      subst hz
      have j1 : IntKind.i64.wrap (pa + pb) = pa + pb := IntWalk.i64_in _ (by omega)
      have j2 : IntKind.i64.wrap (pa + pb - pe) = pa + pb - pe := IntWalk.i64_in _ (by omega)
      go_wp2_with (first | (go_at_call 121; (with_reducible refine (HE.out _ _ hv).mono ?_); rintro e w' ⟨rfl, hu⟩; (have hT := hT.up hu); (have hup := hup.trans hu); (have hv := hv.up hu); (try (have hT2 := hT2.up hu; have r0 := hT2.cell 0; have r1 := hT2.cell 1; have ri := hT2.inw)); (try have hv2 := hv2.up hu); (try have hi1 := hi1.up hu); (try have hi2 := hi2.up hu); (try have hq9 := hq9.trans hu); (have q0 := hT.cell 0); (have q1 := hT.cell 1); (have qi := hT.inw)) | ((first | with_reducible refine wp_region_in x (by kernel_rfl) (by kernel_rfl) ?_ | with_reducible refine wp_region_here (by kernel_rfl) (by kernel_rfl) ?_); (repeat (go_big_quiet_step ((fail)))); refine wpQuiet_nil ?_; intro w' hw'; obtain ⟨x, rfl⟩ := hw'))
      go_ret
      exact ⟨rfl, hup.trans (by repeat' (first | (with_reducible exact Up.refl _) | (with_reducible assumption) | (with_reducible refine Up.alloc ?_ _) | (with_reducible refine Up.drew ?_) | (with_reducible refine Up.grow ?_ _) | (with_reducible refine Up.setCell ?_ (by (try simp); (try omega)) _)))⟩
end Go.Proofs.Ytdeoampkbbbleaa
