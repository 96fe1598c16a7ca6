/- The law of annuities: the walk. Condition: the code reads as bytes. -/
import Derived.Test.YtdeoampkbbbleaaDraw7
import Derived.Test.YtdeoampkbbbleaaLike
import Derived.Test.YtdeoampkbbbleaaSAnn2
import Derived.Test.YtdeoampkbbbleaaIAnn
import Derived.Test.YtdeoampkbbbleaaPureL
namespace Go.Proofs.Ytdeoampkbbbleaa
open Go.RowKit Pu
set_option linter.unusedVariables false
set_option linter.unusedSimpArgs false

theorem cert_up {r m : Int} (h0 : 0 ≤ r) (n : Nat) (hm : 0 ≤ m) : 0 ≤ up m (cert r n) 1000000000 := up_nonneg (by omega) hm (cert_bd h0 n).1
theorem ann_law {T : Tab} (h : T.Ok) {r : Int} (h0 : 0 ≤ r) {k : Nat} (hd : 1 ≤ T.D r k) {m : Int} (hm1 : 1 ≤ m) (hm2 : m ≤ 1000000) (n : Nat) :
    0 ≤ up m (T.N r k - T.N r (k + n)) (T.D r k) + up m (T.N r (k + n)) (T.D r k) - up m (T.N r k) (T.D r k) ∧ up m (T.N r k - T.N r (k + n)) (T.D r k) + up m (T.N r (k + n)) (T.D r k) - up m (T.N r k) (T.D r k) ≤ 1 ∧
    up m (T.N r k - T.N r (k + n)) (T.D r k) ≤ m * n ∧ (0 ≤ up m (T.N r k - T.N r (k + n)) (T.D r k) ∧ up m (T.N r k - T.N r (k + n)) (T.D r k) ≤ 119000000) ∧ (0 ≤ up m (T.N r (k + n)) (T.D r k) ∧ up m (T.N r (k + n)) (T.D r k) ≤ 119000000) := by
  have a := up_parts (m := m) (A := T.N r k - T.N r (k + n)) (B := T.N r (k + n)) hd
  rw [show T.N r k - T.N r (k + n) + T.N r (k + n) = T.N r k from by omega] at a
  have nd := h.N_diff h0 k n
  have b := up_le_mul (m := m) (n := n) hd (by omega) nd.2
  have n1 := h.N_bd h0 k
  have n2 := h.N_mono h0 k n
  have n3 := h.N_bd h0 (k + n)
  have b1 := up_le_mul (m := m) (A := T.N r k - T.N r (k + n)) (n := 119) hd (by omega) (by omega)
  have b2 := up_le_mul (m := m) (A := T.N r (k + n)) (n := 119) hd (by omega) (by omega)
  have c1 := up_nonneg (m := m) (A := T.N r k - T.N r (k + n)) hd (by omega) (by omega)
  have c2 := up_nonneg (m := m) (A := T.N r (k + n)) hd (by omega) (by omega)
  exact ⟨a.1, a.2, b, ⟨c1, by omega⟩, c2, by omega⟩
set_option maxRecDepth 100000 in
set_option maxHeartbeats 8000000 in
theorem l_Annuities (A : Option Addr) (n c : Nat) (w : World) (hI : InCode w A n c) : Calls Try.prog 13 #[.slice A n c] w (Ret w (.bool true)) := by
  by_cases hb : 4096 < n
  · have HB := Lib.hid (l_Big A n c true (by simp [hb]) (by have := hI.1; have := hI.2.1; omega))
    clear hI
    go_enter Try.func13, Try.ntmps13
    go_wp2_with (go_at_call 38; (with_reducible refine (HB.out _).mono ?_); rintro e w' ⟨rfl, rfl⟩)
    go_ret
    exact ⟨rfl, (by repeat' (first | (with_reducible exact Up.refl _) | (with_reducible assumption) | (with_reducible refine Up.alloc ?_ _) | (with_reducible refine Up.drew ?_) | (with_reducible refine Up.grow ?_ _) | (with_reducible refine Up.setCell ?_ (by (try simp); (try omega)) _)))⟩
  have HB := Lib.hid (l_Big A n c false (by simp [hb]) (by have := hI.1; have := hI.2.1; omega))
  have HI := Lib.hid hI
  have hn : n ≤ 4096 := by omega
  clear hI hb
  go_enter Try.func13, Try.ntmps13
  go_upto_region 4 with (first
    | (go_at_call 38; (with_reducible refine (HB.out _).mono ?_); rintro e w' ⟨rfl, rfl⟩)
    | (go_at_call 100; (with_reducible refine (s_DrawTermAnnuity A n c hn _ HI.out).mono ?_); rintro e w2 ⟨T, A1, c1, r, age, m, yrs, rfl, hu2, hO⟩))
  have hu3 := Up.alloc (Up.refl w2) (.cells #[.int .i64 T.first, .slice A1 T.n c1] 31)
  have hup : Up w (w2.alloc (.cells #[.int .i64 T.first, .slice A1 T.n c1] 31)) := hu2.trans hu3
  have hT := Blk.new w2 31 #[.int .i64 T.first, .slice A1 T.n c1]
  have hv := hO.tab.up hu3
  generalize w2.alloc (.cells #[.int .i64 T.first, .slice A1 T.n c1] 31) = w3 at *
  generalize w2.heap.size = bT at *
  clear hu2 hu3 HB HI hO hn
  (have q0 := hT.cell 0); (have q1 := hT.cell 1); (have qi := hT.inw)
  have H1 := Lib.hid (i_Term T r age m yrs)
  have H2 := Lib.hid (s_Term T r age m yrs)
  have H3 := Lib.hid (i_Late T r age m yrs)
  have H4 := Lib.hid (s_Late T r age m yrs)
  have H5 := Lib.hid (i_Sure T r age m yrs)
  have H6 := Lib.hid (s_Sure T r age m yrs)
  by_cases hz : termC T r age m yrs = 0
  case neg =>
    simp only [RetQ_bad hz] at H1 H2 H3 H4 H5 H6
    (have hz1 : ((termC T r age m yrs) != 0) = true := (by simpa using hz)); (have hz2 : ((termC T r age m yrs) == 0) = false := (by simpa using hz))
    clear hz
    generalize termC T r age m yrs = K at *
    go_wp2_with (first | (go_at_call 101; (with_reducible refine (H1.out _ _ hv).mono ?_); rintro e w' ⟨rfl, hu⟩; (have hT := hT.up hu); (have hup := hup.trans hu); (have hv := hv.up hu); (try (have hT2 := hT2.up hu; have r0 := hT2.cell 0; have r1 := hT2.cell 1; have ri := hT2.inw)); (try have hv2 := hv2.up hu); (try have hi1 := hi1.up hu); (try have hi2 := hi2.up hu); (have q0 := hT.cell 0); (have q1 := hT.cell 1); (have qi := hT.inw)) | (go_at_call 102; (with_reducible refine (H2.out _ _ hv).mono ?_); rintro e w' ⟨rfl, hu⟩; (have hT := hT.up hu); (have hup := hup.trans hu); (have hv := hv.up hu); (try (have hT2 := hT2.up hu; have r0 := hT2.cell 0; have r1 := hT2.cell 1; have ri := hT2.inw)); (try have hv2 := hv2.up hu); (try have hi1 := hi1.up hu); (try have hi2 := hi2.up hu); (have q0 := hT.cell 0); (have q1 := hT.cell 1); (have qi := hT.inw)) | (go_at_call 103; (with_reducible refine (H3.out _ _ hv).mono ?_); rintro e w' ⟨rfl, hu⟩; (have hT := hT.up hu); (have hup := hup.trans hu); (have hv := hv.up hu); (try (have hT2 := hT2.up hu; have r0 := hT2.cell 0; have r1 := hT2.cell 1; have ri := hT2.inw)); (try have hv2 := hv2.up hu); (try have hi1 := hi1.up hu); (try have hi2 := hi2.up hu); (have q0 := hT.cell 0); (have q1 := hT.cell 1); (have qi := hT.inw)) | (go_at_call 104; (with_reducible refine (H4.out _ _ hv).mono ?_); rintro e w' ⟨rfl, hu⟩; (have hT := hT.up hu); (have hup := hup.trans hu); (have hv := hv.up hu); (try (have hT2 := hT2.up hu; have r0 := hT2.cell 0; have r1 := hT2.cell 1; have ri := hT2.inw)); (try have hv2 := hv2.up hu); (try have hi1 := hi1.up hu); (try have hi2 := hi2.up hu); (have q0 := hT.cell 0); (have q1 := hT.cell 1); (have qi := hT.inw)) | (go_at_call 105; (with_reducible refine (H5.out _ _ hv).mono ?_); rintro e w' ⟨rfl, hu⟩; (have hT := hT.up hu); (have hup := hup.trans hu); (have hv := hv.up hu); (try (have hT2 := hT2.up hu; have r0 := hT2.cell 0; have r1 := hT2.cell 1; have ri := hT2.inw)); (try have hv2 := hv2.up hu); (try have hi1 := hi1.up hu); (try have hi2 := hi2.up hu); (have q0 := hT.cell 0); (have q1 := hT.cell 1); (have qi := hT.inw)) | (go_at_call 106; (with_reducible refine (H6.out _ _ hv).mono ?_); rintro e w' ⟨rfl, hu⟩; (have hT := hT.up hu); (have hup := hup.trans hu); (have hv := hv.up hu); (try (have hT2 := hT2.up hu; have r0 := hT2.cell 0; have r1 := hT2.cell 1; have ri := hT2.inw)); (try have hv2 := hv2.up hu); (try have hi1 := hi1.up hu); (try have hi2 := hi2.up hu); (have q0 := hT.cell 0); (have q1 := hT.cell 1); (have qi := hT.inw)))
    go_ret
    exact ⟨rfl, hup.trans (by repeat' (first | (with_reducible exact Up.refl _) | (with_reducible assumption) | (with_reducible refine Up.alloc ?_ _) | (with_reducible refine Up.drew ?_) | (with_reducible refine Up.grow ?_ _) | (with_reducible refine Up.setCell ?_ (by (try simp); (try omega)) _)))⟩
  have hcode := hz
  unfold termC at hcode
  obtain ⟨hT1, h0, h1, hb, k, n', rfl, rfl, hn', hkn, hd⟩ := code6_ok hcode
  have bm := inR_true.1 hb
  have HL := i_Life T r (T.first + k) m
  have hlc : lifeC T r (T.first + k) m = 0 := by
    unfold lifeC
    obtain ⟨z1, z2, z3⟩ := code6_zero.1 hcode
    exact code6_zero.2 ⟨z1, ⟨hb, by omega, by omega, by omega⟩, z3⟩
  simp only [hz, hlc, RetQ_ok, termV, lateV, sureV, lifeV, show (T.first + (k : Int) - T.first).toNat = k from by omega, show (T.first + (k : Int) + (n' : Int) - T.first).toNat = k + n' from by omega, Int.toNat_natCast] at H1 H2 H3 H4 H5 H6 HL
  obtain ⟨a1, a2, a3, a4, a5⟩ := ann_law hT1 h0 hd bm.1 bm.2 n'
  have a6 := cert_up (m := m) h0 n' (by omega)
  generalize up m (T.N r k - T.N r (k + n')) (T.D r k) = X at *
  generalize up m (T.N r (k + n')) (T.D r k) = Y at *
  generalize up m (T.N r k) (T.D r k) = Z at *
  generalize up m (cert r n') 1000000000 = V at *
  have i1 : IntKind.i64.wrap (X + Y) = X + Y := IntWalk.i64_in _ (by omega)
  have i2 : IntKind.i64.wrap (X + Y - Z) = X + Y - Z := IntWalk.i64_in _ (by omega)
  have i4 : Y ≤ V + Y := by omega
  replace HL := Lib.hid HL
  have p1 : m * n' ≤ m * max (n' : Int) 1 := Int.mul_le_mul_of_nonneg_left (by omega) (by omega)
  have p2 : m * max (n' : Int) 1 ≤ 1000000 * 120 := Int.mul_le_mul bm.2 (by omega) (by omega) (by omega)
  have p3 : 0 ≤ m * max (n' : Int) 1 := Int.mul_nonneg (by omega) (by omega)
  obtain ⟨P, hP⟩ : ∃ P, m * max (n' : Int) 1 = P := ⟨_, rfl⟩
  have i3 : IntKind.i64.wrap (m * max (n' : Int) 1) = P := by rw [hP]; exact IntWalk.i64_in _ (by omega)
  have i5 : X ≤ P := by omega
  clear hz hcode hb hlc hd a6 a3 p1 p2 p3 hP
  go_wp2_with (first | (go_at_call 101; (with_reducible refine (H1.out _ _ hv).mono ?_); rintro e w' ⟨rfl, hu⟩; (have hT := hT.up hu); (have hup := hup.trans hu); (have hv := hv.up hu); (try (have hT2 := hT2.up hu; have r0 := hT2.cell 0; have r1 := hT2.cell 1; have ri := hT2.inw)); (try have hv2 := hv2.up hu); (try have hi1 := hi1.up hu); (try have hi2 := hi2.up hu); (have q0 := hT.cell 0); (have q1 := hT.cell 1); (have qi := hT.inw)) | (go_at_call 102; (with_reducible refine (H2.out _ _ hv).mono ?_); rintro e w' ⟨rfl, hu⟩; (have hT := hT.up hu); (have hup := hup.trans hu); (have hv := hv.up hu); (try (have hT2 := hT2.up hu; have r0 := hT2.cell 0; have r1 := hT2.cell 1; have ri := hT2.inw)); (try have hv2 := hv2.up hu); (try have hi1 := hi1.up hu); (try have hi2 := hi2.up hu); (have q0 := hT.cell 0); (have q1 := hT.cell 1); (have qi := hT.inw)) | (go_at_call 103; (with_reducible refine (H3.out _ _ hv).mono ?_); rintro e w' ⟨rfl, hu⟩; (have hT := hT.up hu); (have hup := hup.trans hu); (have hv := hv.up hu); (try (have hT2 := hT2.up hu; have r0 := hT2.cell 0; have r1 := hT2.cell 1; have ri := hT2.inw)); (try have hv2 := hv2.up hu); (try have hi1 := hi1.up hu); (try have hi2 := hi2.up hu); (have q0 := hT.cell 0); (have q1 := hT.cell 1); (have qi := hT.inw)) | (go_at_call 104; (with_reducible refine (H4.out _ _ hv).mono ?_); rintro e w' ⟨rfl, hu⟩; (have hT := hT.up hu); (have hup := hup.trans hu); (have hv := hv.up hu); (try (have hT2 := hT2.up hu; have r0 := hT2.cell 0; have r1 := hT2.cell 1; have ri := hT2.inw)); (try have hv2 := hv2.up hu); (try have hi1 := hi1.up hu); (try have hi2 := hi2.up hu); (have q0 := hT.cell 0); (have q1 := hT.cell 1); (have qi := hT.inw)) | (go_at_call 105; (with_reducible refine (H5.out _ _ hv).mono ?_); rintro e w' ⟨rfl, hu⟩; (have hT := hT.up hu); (have hup := hup.trans hu); (have hv := hv.up hu); (try (have hT2 := hT2.up hu; have r0 := hT2.cell 0; have r1 := hT2.cell 1; have ri := hT2.inw)); (try have hv2 := hv2.up hu); (try have hi1 := hi1.up hu); (try have hi2 := hi2.up hu); (have q0 := hT.cell 0); (have q1 := hT.cell 1); (have qi := hT.inw)) | (go_at_call 106; (with_reducible refine (H6.out _ _ hv).mono ?_); rintro e w' ⟨rfl, hu⟩; (have hT := hT.up hu); (have hup := hup.trans hu); (have hv := hv.up hu); (try (have hT2 := hT2.up hu; have r0 := hT2.cell 0; have r1 := hT2.cell 1; have ri := hT2.inw)); (try have hv2 := hv2.up hu); (try have hi1 := hi1.up hu); (try have hi2 := hi2.up hu); (have q0 := hT.cell 0); (have q1 := hT.cell 1); (have qi := hT.inw)) | (go_at_call 107; (with_reducible refine (HL.out _ _ hv).mono ?_); rintro e w' ⟨rfl, hu⟩; (have hT := hT.up hu); (have hup := hup.trans hu); (have hv := hv.up hu); (try (have hT2 := hT2.up hu; have r0 := hT2.cell 0; have r1 := hT2.cell 1; have ri := hT2.inw)); (try have hv2 := hv2.up hu); (try have hi1 := hi1.up hu); (try have hi2 := hi2.up hu); (have q0 := hT.cell 0); (have q1 := hT.cell 1); (have qi := hT.inw)) | ((first | with_reducible refine wp_region_in x (by kernel_rfl) (by kernel_rfl) ?_ | with_reducible refine wp_region_here (by kernel_rfl) (by kernel_rfl) ?_); (repeat (go_big_quiet_step ((fail)))); refine wpQuiet_nil ?_; intro w' hw'; obtain ⟨x, rfl⟩ := hw'))
  go_ret
  exact ⟨rfl, hup.trans (by repeat' (first | (with_reducible exact Up.refl _) | (with_reducible assumption) | (with_reducible refine Up.alloc ?_ _) | (with_reducible refine Up.drew ?_) | (with_reducible refine Up.grow ?_ _) | (with_reducible refine Up.setCell ?_ (by (try simp); (try omega)) _)))⟩
end Go.Proofs.Ytdeoampkbbbleaa
