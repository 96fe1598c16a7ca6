/- The law of widows: the walk. Condition: the code reads as bytes. -/
import Derived.Test.YtdeoampkbbbleaaDrwU
import Derived.Test.YtdeoampkbbbleaaIPairR
import Derived.Test.YtdeoampkbbbleaaS08t
import Derived.Test.YtdeoampkbbbleaaS08m
import Derived.Test.YtdeoampkbbbleaaIW
import Derived.Test.YtdeoampkbbbleaaIAnn
namespace Go.Proofs.Ytdeoampkbbbleaa
open Go.RowKit Pu
set_option linter.unusedVariables false
set_option linter.unusedSimpArgs false

theorem wd_codes {T : Tab} {x : Int} {U : Tab} {y r m : Int} (h : code8m T x U y r m = 0) : code8 T x U y true = 0 ∧ lifeC T r x m = 0 ∧ lifeC U r y m = 0 := by
  obtain ⟨hT, hU, h0, h1, hm1, hm2, i, j, rfl, rfl, hx, hy, hi, hj, hd, hd2⟩ := code8m_ok h
  have q1 := hT.lo; have q2 := hU.lo
  refine ⟨?_, ?_, ?_⟩
  · rw [code8m_eq T _ U _ r m _ rfl] at h
    by_cases hc : code8 T (T.first + i) U (U.first + j) (inR r 0 200 && inR m 1 1000000) = 0
    · have hb := (code8_ok hc).2.2.1
      rwa [hb] at hc
    · rw [if_neg hc] at h; exact absurd h hc
  · unfold lifeC
    refine code6_zero.2 ⟨code5_zero.2 ⟨hT, h0, h1, by omega, by omega⟩, ⟨inR_true.2 ⟨hm1, hm2⟩, by omega, by omega, by omega⟩, ?_⟩
    rw [show (T.first + (i : Int) - T.first).toNat = i from by omega]; omega
  · unfold lifeC
    refine code6_zero.2 ⟨code5_zero.2 ⟨hU, h0, h1, by omega, by omega⟩, ⟨inR_true.2 ⟨hm1, hm2⟩, by omega, by omega, by omega⟩, ?_⟩
    rw [show (U.first + (j : Int) - U.first).toNat = j from by omega]; omega
theorem wd_law {T : Tab} {x : Int} {U : Tab} {y r m : Int} (h : code8m T x U y r m = 0) : (-1000000000000 ≤ lifeV T r x m ∧ lifeV T r x m ≤ 1000000000000) ∧ (-1000000000000 ≤ lifeV U r y m ∧ lifeV U r y m ≤ 1000000000000) ∧ (-1000000000000 ≤ jointV T x U y r m ∧ jointV T x U y r m ≤ 1000000000000) ∧ 0 ≤ wyA T x U y ∧ 1 ≤ wyB T x U y := by
  obtain ⟨hT, hU, h0, h1, hm1, hm2, i, j, rfl, rfl, hx, hy, hi, hj, hd, hd2⟩ := code8m_ok h
  have c1 := up_small hT h0 hm1 hm2 hd
  have c2 := up_small hU h0 hm1 hm2 hd2
  have c3 := tog_small hT hU hi hj hx h0 hm1 hm2
  have hJ := hT.joint_ok hU hi hj (x := T.first + i) rfl hx
  unfold lifeV jointV wyA wyB
  rw [ix_k, ix_k]
  simp only [show (T.first + (i : Int) - T.first).toNat = i from by omega, show (U.first + (j : Int) - U.first).toNat = j from by omega]
  generalize T.joint U (T.first + i) i j = J at *
  have hJ1 : 0 + 1 < J.n := by have := hJ.n2; omega
  have wb := wy_bd hJ hU hj hJ1
  have hY1 : 1 ≤ wyY J U j := by have := wyY_cast J U j; omega
  have hp := fB_pos (a := wyX J U j) hY1
  exact ⟨⟨c1.1, c1.2.1⟩, ⟨c2.1, c2.2.1⟩, c3, by omega, by omega⟩
set_option maxRecDepth 100000 in
set_option maxHeartbeats 8000000 in
theorem l_Widows (A : Option Addr) (n c : Nat) (w : World) (hI : InCode w A n c) : Calls Try.prog 17 #[.slice A n c] w (Ret w (.bool true)) := by
  by_cases hb : 4096 < n
  · have HB := Lib.hid (l_Big A n c true (by simp [hb]) (by have := hI.1; have := hI.2.1; omega))
    clear hI
    go_enter Try.func17, Try.ntmps17
    go_wp2_with (go_at_call 38; (with_reducible refine (HB.out _).mono ?_); rintro e w' ⟨rfl, rfl⟩)
    go_ret
    exact ⟨rfl, (by repeat' (first | (with_reducible exact Up.refl _) | (with_reducible assumption) | (with_reducible refine Up.alloc ?_ _) | (with_reducible refine Up.drew ?_) | (with_reducible refine Up.grow ?_ _) | (with_reducible refine Up.setCell ?_ (by (try simp); (try omega)) _)))⟩
  have HB := Lib.hid (l_Big A n c false (by simp [hb]) (by have := hI.1; have := hI.2.1; omega))
  have HI := Lib.hid hI
  have hn : n ≤ 4096 := by omega
  clear hI hb
  go_enter Try.func17, Try.ntmps17
  go_upto_region 4 with (first
    | (go_at_call 38; (with_reducible refine (HB.out _).mono ?_); rintro e w' ⟨rfl, rfl⟩)
    | (go_at_call 131; (with_reducible refine (s_DrawLastAnnuity A n c hn _ HI.out).mono ?_); rintro e w2 ⟨T, A1, c1, U, A2, c2, x, y, r, m, rfl, hu2, hO, hO2⟩))
  have hu3 : Up w2 ((w2.alloc (.cells #[.int .i64 T.first, .slice A1 T.n c1] 31)).alloc (.cells #[.int .i64 U.first, .slice A2 U.n c2] 31)) := (by repeat' (first | (with_reducible exact Up.refl _) | (with_reducible assumption) | (with_reducible refine Up.alloc ?_ _) | (with_reducible refine Up.drew ?_) | (with_reducible refine Up.grow ?_ _) | (with_reducible refine Up.setCell ?_ (by (try simp); (try omega)) _)))
  have hup := hu2.trans hu3
  have hT : Blk ((w2.alloc (.cells #[.int .i64 T.first, .slice A1 T.n c1] 31)).alloc (.cells #[.int .i64 U.first, .slice A2 U.n c2] 31)) w2.heap.size 31 #[.int .i64 T.first, .slice A1 T.n c1] := (Blk.new _ _ _).alloc _
  have hT2 : Blk ((w2.alloc (.cells #[.int .i64 T.first, .slice A1 T.n c1] 31)).alloc (.cells #[.int .i64 U.first, .slice A2 U.n c2] 31)) (w2.heap.size + 1) 31 #[.int .i64 U.first, .slice A2 U.n c2] := by
    have h := Blk.new (w2.alloc (.cells #[.int .i64 T.first, .slice A1 T.n c1] 31)) 31 #[.int .i64 U.first, .slice A2 U.n c2]
    simpa only [World.size_alloc] using h
  have hv := hO.tab.up hu3
  have hv2 := hO2.tab.up hu3
  generalize (w2.alloc (.cells #[.int .i64 T.first, .slice A1 T.n c1] 31)).alloc (.cells #[.int .i64 U.first, .slice A2 U.n c2] 31) = w3 at *
  generalize w2.heap.size + 1 = bU at *
  generalize w2.heap.size = bT at *
  clear hu2 hu3 hO hO2 HB HI hn
  (have q0 := hT.cell 0); (have q1 := hT.cell 1); (have qi := hT.inw)
  have r0 := hT2.cell 0; have r1 := hT2.cell 1; have ri := hT2.inw
  have H1 := Lib.hid (i_LA T U x y r m)
  have H2 := Lib.hid (s_LA T U x y r m)
  have H3 := Lib.hid (i_WA T U x y r m)
  have H4 := Lib.hid (s_WA T U x y r m)
  have H5 := Lib.hid (i_JA T U x y r m)
  have H6 := Lib.hid (s_JA T U x y r m)
  have H7 := Lib.hid (i_WidowYears T U x y)
  have H8 := Lib.hid (s_WidowYears T U x y)
  by_cases hz : code8m T x U y r m = 0
  case neg =>
    simp only [RetQ_bad hz] at H1 H2 H3 H4 H5 H6
    simp only [RetQ3] at H7 H8
    (have hz1 : ((code8m T x U y r m) != 0) = true := (by simpa using hz)); (have hz2 : ((code8m T x U y r m) == 0) = false := (by simpa using hz))
    clear hz
    generalize code8m T x U y r m = K at *
    generalize code8 T x U y true = K2 at *
    generalize (if K2 = 0 then wyA T x U y else 0) = wa at *
    generalize (if K2 = 0 then wyB T x U y else 0) = wb at *
    go_wp2_with (first | (go_at_call 132; (with_reducible refine (H1.out _ _ _ hv hv2).mono ?_); rintro e w' ⟨rfl, hu⟩; (have hT := hT.up hu); (have hup := hup.trans hu); (have hv := hv.up hu); (try (have hT2 := hT2.up hu; have r0 := hT2.cell 0; have r1 := hT2.cell 1; have ri := hT2.inw)); (try have hv2 := hv2.up hu); (try have hi1 := hi1.up hu); (try have hi2 := hi2.up hu); (try have hq9 := hq9.trans hu); (have q0 := hT.cell 0); (have q1 := hT.cell 1); (have qi := hT.inw)) | (go_at_call 133; (with_reducible refine (H2.out _ _ _ hv hv2).mono ?_); rintro e w' ⟨rfl, hu⟩; (have hT := hT.up hu); (have hup := hup.trans hu); (have hv := hv.up hu); (try (have hT2 := hT2.up hu; have r0 := hT2.cell 0; have r1 := hT2.cell 1; have ri := hT2.inw)); (try have hv2 := hv2.up hu); (try have hi1 := hi1.up hu); (try have hi2 := hi2.up hu); (try have hq9 := hq9.trans hu); (have q0 := hT.cell 0); (have q1 := hT.cell 1); (have qi := hT.inw)) | (go_at_call 134; (with_reducible refine (H3.out _ _ _ hv hv2).mono ?_); rintro e w' ⟨rfl, hu⟩; (have hT := hT.up hu); (have hup := hup.trans hu); (have hv := hv.up hu); (try (have hT2 := hT2.up hu; have r0 := hT2.cell 0; have r1 := hT2.cell 1; have ri := hT2.inw)); (try have hv2 := hv2.up hu); (try have hi1 := hi1.up hu); (try have hi2 := hi2.up hu); (try have hq9 := hq9.trans hu); (have q0 := hT.cell 0); (have q1 := hT.cell 1); (have qi := hT.inw)) | (go_at_call 135; (with_reducible refine (H4.out _ _ _ hv hv2).mono ?_); rintro e w' ⟨rfl, hu⟩; (have hT := hT.up hu); (have hup := hup.trans hu); (have hv := hv.up hu); (try (have hT2 := hT2.up hu; have r0 := hT2.cell 0; have r1 := hT2.cell 1; have ri := hT2.inw)); (try have hv2 := hv2.up hu); (try have hi1 := hi1.up hu); (try have hi2 := hi2.up hu); (try have hq9 := hq9.trans hu); (have q0 := hT.cell 0); (have q1 := hT.cell 1); (have qi := hT.inw)) | (go_at_call 136; (with_reducible refine (H5.out _ _ _ hv hv2).mono ?_); rintro e w' ⟨rfl, hu⟩; (have hT := hT.up hu); (have hup := hup.trans hu); (have hv := hv.up hu); (try (have hT2 := hT2.up hu; have r0 := hT2.cell 0; have r1 := hT2.cell 1; have ri := hT2.inw)); (try have hv2 := hv2.up hu); (try have hi1 := hi1.up hu); (try have hi2 := hi2.up hu); (try have hq9 := hq9.trans hu); (have q0 := hT.cell 0); (have q1 := hT.cell 1); (have qi := hT.inw)) | (go_at_call 137; (with_reducible refine (H6.out _ _ _ hv hv2).mono ?_); rintro e w' ⟨rfl, hu⟩; (have hT := hT.up hu); (have hup := hup.trans hu); (have hv := hv.up hu); (try (have hT2 := hT2.up hu; have r0 := hT2.cell 0; have r1 := hT2.cell 1; have ri := hT2.inw)); (try have hv2 := hv2.up hu); (try have hi1 := hi1.up hu); (try have hi2 := hi2.up hu); (try have hq9 := hq9.trans hu); (have q0 := hT.cell 0); (have q1 := hT.cell 1); (have qi := hT.inw)) | (go_at_call 138; (with_reducible refine (H7.out _ _ _ hv hv2).mono ?_); rintro e w' ⟨rfl, hu⟩; (have hT := hT.up hu); (have hup := hup.trans hu); (have hv := hv.up hu); (try (have hT2 := hT2.up hu; have r0 := hT2.cell 0; have r1 := hT2.cell 1; have ri := hT2.inw)); (try have hv2 := hv2.up hu); (try have hi1 := hi1.up hu); (try have hi2 := hi2.up hu); (try have hq9 := hq9.trans hu); (have q0 := hT.cell 0); (have q1 := hT.cell 1); (have qi := hT.inw)) | (go_at_call 139; (with_reducible refine (H8.out _ _ _ hv hv2).mono ?_); rintro e w' ⟨rfl, hu⟩; (have hT := hT.up hu); (have hup := hup.trans hu); (have hv := hv.up hu); (try (have hT2 := hT2.up hu; have r0 := hT2.cell 0; have r1 := hT2.cell 1; have ri := hT2.inw)); (try have hv2 := hv2.up hu); (try have hi1 := hi1.up hu); (try have hi2 := hi2.up hu); (try have hq9 := hq9.trans hu); (have q0 := hT.cell 0); (have q1 := hT.cell 1); (have qi := hT.inw)) | (go_at_call 107; (with_reducible refine (HL.out _ _ hv).mono ?_); rintro e w' ⟨rfl, hu⟩; (have hT := hT.up hu); (have hup := hup.trans hu); (have hv := hv.up hu); (try (have hT2 := hT2.up hu; have r0 := hT2.cell 0; have r1 := hT2.cell 1; have ri := hT2.inw)); (try have hv2 := hv2.up hu); (try have hi1 := hi1.up hu); (try have hi2 := hi2.up hu); (try have hq9 := hq9.trans hu); (have q0 := hT.cell 0); (have q1 := hT.cell 1); (have qi := hT.inw)) | (go_at_call 107; (with_reducible refine (HM.out _ _ hv2).mono ?_); rintro e w' ⟨rfl, hu⟩; (have hT := hT.up hu); (have hup := hup.trans hu); (have hv := hv.up hu); (try (have hT2 := hT2.up hu; have r0 := hT2.cell 0; have r1 := hT2.cell 1; have ri := hT2.inw)); (try have hv2 := hv2.up hu); (try have hi1 := hi1.up hu); (try have hi2 := hi2.up hu); (try have hq9 := hq9.trans hu); (have q0 := hT.cell 0); (have q1 := hT.cell 1); (have qi := hT.inw)) | ((first | with_reducible refine wp_region_in x (by kernel_rfl) (by kernel_rfl) ?_ | with_reducible refine wp_region_here (by kernel_rfl) (by kernel_rfl) ?_); (repeat (go_big_quiet_step ((fail)))); refine wpQuiet_nil ?_; intro w' hw'; obtain ⟨x, rfl⟩ := hw'))
    go_ret
    exact ⟨rfl, hup.trans (by repeat' (first | (with_reducible exact Up.refl _) | (with_reducible assumption) | (with_reducible refine Up.alloc ?_ _) | (with_reducible refine Up.drew ?_) | (with_reducible refine Up.grow ?_ _) | (with_reducible refine Up.setCell ?_ (by (try simp); (try omega)) _)))⟩
  obtain ⟨z1, z2, z3⟩ := wd_codes hz
  obtain ⟨b1, b2, b3, b4, b5⟩ := wd_law hz
  have HL := Lib.hid (i_Life T r x m)
  have HM := Lib.hid (i_Life U r y m)
  simp only [hz, z1, z2, z3, RetQ_ok, RetQ3_ok] at H1 H2 H3 H4 H5 H6 H7 H8 HL HM
  have eW : widowV T x U y r m = lifeV U r y m + 1 - jointV T x U y r m := rfl
  have eL : lastV T x U y r m = lifeV T r x m + widowV T x U y r m := rfl
  generalize widowV T x U y r m = Wd at *
  generalize lastV T x U y r m = La at *
  generalize jointV T x U y r m = Jo at *
  generalize lifeV T r x m = F at *
  generalize lifeV U r y m = S2 at *
  generalize wyA T x U y = wa at *
  generalize wyB T x U y = wb at *
  have i1 : IntKind.i64.wrap (F + Wd) = La := by rw [eL]; exact IntWalk.i64_in _ (by omega)
  have i2 : IntKind.i64.wrap (S2 + 1) = S2 + 1 := IntWalk.i64_in _ (by omega)
  have i3 : IntKind.i64.wrap (S2 + 1 - Jo) = Wd := by rw [eW]; exact IntWalk.i64_in _ (by omega)
  clear eW eL hz z1 z2 z3 b1 b2 b3
  go_wp2_with (first | (go_at_call 132; (with_reducible refine (H1.out _ _ _ hv hv2).mono ?_); rintro e w' ⟨rfl, hu⟩; (have hT := hT.up hu); (have hup := hup.trans hu); (have hv := hv.up hu); (try (have hT2 := hT2.up hu; have r0 := hT2.cell 0; have r1 := hT2.cell 1; have ri := hT2.inw)); (try have hv2 := hv2.up hu); (try have hi1 := hi1.up hu); (try have hi2 := hi2.up hu); (try have hq9 := hq9.trans hu); (have q0 := hT.cell 0); (have q1 := hT.cell 1); (have qi := hT.inw)) | (go_at_call 133; (with_reducible refine (H2.out _ _ _ hv hv2).mono ?_); rintro e w' ⟨rfl, hu⟩; (have hT := hT.up hu); (have hup := hup.trans hu); (have hv := hv.up hu); (try (have hT2 := hT2.up hu; have r0 := hT2.cell 0; have r1 := hT2.cell 1; have ri := hT2.inw)); (try have hv2 := hv2.up hu); (try have hi1 := hi1.up hu); (try have hi2 := hi2.up hu); (try have hq9 := hq9.trans hu); (have q0 := hT.cell 0); (have q1 := hT.cell 1); (have qi := hT.inw)) | (go_at_call 134; (with_reducible refine (H3.out _ _ _ hv hv2).mono ?_); rintro e w' ⟨rfl, hu⟩; (have hT := hT.up hu); (have hup := hup.trans hu); (have hv := hv.up hu); (try (have hT2 := hT2.up hu; have r0 := hT2.cell 0; have r1 := hT2.cell 1; have ri := hT2.inw)); (try have hv2 := hv2.up hu); (try have hi1 := hi1.up hu); (try have hi2 := hi2.up hu); (try have hq9 := hq9.trans hu); (have q0 := hT.cell 0); (have q1 := hT.cell 1); (have qi := hT.inw)) | (go_at_call 135; (with_reducible refine (H4.out _ _ _ hv hv2).mono ?_); rintro e w' ⟨rfl, hu⟩; (have hT := hT.up hu); (have hup := hup.trans hu); (have hv := hv.up hu); (try (have hT2 := hT2.up hu; have r0 := hT2.cell 0; have r1 := hT2.cell 1; have ri := hT2.inw)); (try have hv2 := hv2.up hu); (try have hi1 := hi1.up hu); (try have hi2 := hi2.up hu); (try have hq9 := hq9.trans hu); (have q0 := hT.cell 0); (have q1 := hT.cell 1); (have qi := hT.inw)) | (go_at_call 136; (with_reducible refine (H5.out _ _ _ hv hv2).mono ?_); rintro e w' ⟨rfl, hu⟩; (have hT := hT.up hu); (have hup := hup.trans hu); (have hv := hv.up hu); (try (have hT2 := hT2.up hu; have r0 := hT2.cell 0; have r1 := hT2.cell 1; have ri := hT2.inw)); (try have hv2 := hv2.up hu); (try have hi1 := hi1.up hu); (try have hi2 := hi2.up hu); (try have hq9 := hq9.trans hu); (have q0 := hT.cell 0); (have q1 := hT.cell 1); (have qi := hT.inw)) | (go_at_call 137; (with_reducible refine (H6.out _ _ _ hv hv2).mono ?_); rintro e w' ⟨rfl, hu⟩; (have hT := hT.up hu); (have hup := hup.trans hu); (have hv := hv.up hu); (try (have hT2 := hT2.up hu; have r0 := hT2.cell 0; have r1 := hT2.cell 1; have ri := hT2.inw)); (try have hv2 := hv2.up hu); (try have hi1 := hi1.up hu); (try have hi2 := hi2.up hu); (try have hq9 := hq9.trans hu); (have q0 := hT.cell 0); (have q1 := hT.cell 1); (have qi := hT.inw)) | (go_at_call 138; (with_reducible refine (H7.out _ _ _ hv hv2).mono ?_); rintro e w' ⟨rfl, hu⟩; (have hT := hT.up hu); (have hup := hup.trans hu); (have hv := hv.up hu); (try (have hT2 := hT2.up hu; have r0 := hT2.cell 0; have r1 := hT2.cell 1; have ri := hT2.inw)); (try have hv2 := hv2.up hu); (try have hi1 := hi1.up hu); (try have hi2 := hi2.up hu); (try have hq9 := hq9.trans hu); (have q0 := hT.cell 0); (have q1 := hT.cell 1); (have qi := hT.inw)) | (go_at_call 139; (with_reducible refine (H8.out _ _ _ hv hv2).mono ?_); rintro e w' ⟨rfl, hu⟩; (have hT := hT.up hu); (have hup := hup.trans hu); (have hv := hv.up hu); (try (have hT2 := hT2.up hu; have r0 := hT2.cell 0; have r1 := hT2.cell 1; have ri := hT2.inw)); (try have hv2 := hv2.up hu); (try have hi1 := hi1.up hu); (try have hi2 := hi2.up hu); (try have hq9 := hq9.trans hu); (have q0 := hT.cell 0); (have q1 := hT.cell 1); (have qi := hT.inw)) | (go_at_call 107; (with_reducible refine (HL.out _ _ hv).mono ?_); rintro e w' ⟨rfl, hu⟩; (have hT := hT.up hu); (have hup := hup.trans hu); (have hv := hv.up hu); (try (have hT2 := hT2.up hu; have r0 := hT2.cell 0; have r1 := hT2.cell 1; have ri := hT2.inw)); (try have hv2 := hv2.up hu); (try have hi1 := hi1.up hu); (try have hi2 := hi2.up hu); (try have hq9 := hq9.trans hu); (have q0 := hT.cell 0); (have q1 := hT.cell 1); (have qi := hT.inw)) | (go_at_call 107; (with_reducible refine (HM.out _ _ hv2).mono ?_); rintro e w' ⟨rfl, hu⟩; (have hT := hT.up hu); (have hup := hup.trans hu); (have hv := hv.up hu); (try (have hT2 := hT2.up hu; have r0 := hT2.cell 0; have r1 := hT2.cell 1; have ri := hT2.inw)); (try have hv2 := hv2.up hu); (try have hi1 := hi1.up hu); (try have hi2 := hi2.up hu); (try have hq9 := hq9.trans hu); (have q0 := hT.cell 0); (have q1 := hT.cell 1); (have qi := hT.inw)) | ((first | with_reducible refine wp_region_in x (by kernel_rfl) (by kernel_rfl) ?_ | with_reducible refine wp_region_here (by kernel_rfl) (by kernel_rfl) ?_); (repeat (go_big_quiet_step ((fail)))); refine wpQuiet_nil ?_; intro w' hw'; obtain ⟨x, rfl⟩ := hw'))
  go_ret
  exact ⟨rfl, hup.trans (by repeat' (first | (with_reducible exact Up.refl _) | (with_reducible assumption) | (with_reducible refine Up.alloc ?_ _) | (with_reducible refine Up.drew ?_) | (with_reducible refine Up.grow ?_ _) | (with_reducible refine Up.setCell ?_ (by (try simp); (try omega)) _)))⟩
end Go.Proofs.Ytdeoampkbbbleaa
