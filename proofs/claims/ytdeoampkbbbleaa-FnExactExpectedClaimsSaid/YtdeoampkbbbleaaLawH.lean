/- Laws of functions of a basis and holdings that return numbers: the walk. Condition: the slices read as the table's numbers and the holdings. -/
import Derived.Test.YtdeoampkbbbleaaHoldC
import Derived.Test.YtdeoampkbbbleaaICols
namespace Go.Proofs.Ytdeoampkbbbleaa
open Go.RowKit Pu
set_option linter.unusedVariables false
set_option linter.unusedSimpArgs false

set_option maxRecDepth 100000 in
set_option maxHeartbeats 4000000 in
theorem l_IsPortfolio (T : Tab) (r : Int) (A : Option Addr) (c : Nat) (hn : T.n ≤ c) (hc : c ≤ 9223372036854775807) (A' : Option Addr) (n c' : Nat) (g : Nat → Nat → Int) (hn' : n ≤ c') (hc' : c' ≤ 9223372036854775807) (w : World) (hI : Ints w A T.n T.f) (hH : HInts w A' n g) (q1 : Bool)
    (HS : Hid (n ≤ 1048576 → ∀ v vl w, BasAt w T r v → HAt w vl n g → Calls Try.prog 20 #[v, vl] w (Ret w (.bool q1)))) (HI : Hid (n ≤ 1048576 → ∀ v vl w, BasAt w T r v → HAt w vl n g → Calls Try.prog 23 #[v, vl] w (Ret w (.bool q1)))) :
    Calls Try.prog 3 #[.agg #[.int .i64 T.first, .slice A T.n c, .int .i64 r], .slice A' n c'] w (Ret w (.bool true)) := by
  by_cases hb : T.n ≤ 1048576
  case neg =>
    have HZ1 : ∀ w, Calls Try.prog 18 #[.agg #[.int .i64 T.first, .slice A T.n c, .int .i64 r], .int .i64 1048576] w (Ret w (.int .i64 (-1))) := fun w => by have h := l_SzB T r A c (by omega) 1048576 (by omega) (by omega) w; rwa [if_pos (by omega)] at h
    replace HZ1 := Lib.hid HZ1
    go_enter Try.func3, Try.ntmps3
    go_wp2_with (go_at_call 18; refine (HZ1.out _).mono ?_; rintro e w' ⟨rfl, hb⟩; first | (obtain ⟨x, rfl⟩ := Grow.on x hb) | (obtain ⟨x, rfl⟩ := Grow.mk' hb))
    go_ret
    exact ⟨rfl, (by repeat' (first | (with_reducible exact Up.refl _) | (with_reducible assumption) | (with_reducible refine Up.alloc ?_ _) | (with_reducible refine Up.drew ?_) | (with_reducible refine Up.grow ?_ _) | (with_reducible refine Up.setCell ?_ (by (try simp); (try omega)) _)))⟩
  have HZ1 : ∀ w, Calls Try.prog 18 #[.agg #[.int .i64 T.first, .slice A T.n c, .int .i64 r], .int .i64 1048576] w (Ret w (.int .i64 (1048576 - T.n))) := fun w => by have h := l_SzB T r A c (by omega) 1048576 (by omega) (by omega) w; rwa [if_neg (by omega)] at h
  replace HZ1 := Lib.hid HZ1
  by_cases hbb : T.n + n ≤ 1048576
  case neg =>
    have HZ2 : ∀ w, Calls Try.prog 19 #[.slice A' n c', .int .i64 (1048576 - T.n)] w (Ret w (.int .i64 (-1))) := fun w => by have h := l_SzH A' n c' (by omega) (1048576 - T.n) (by omega) (by omega) w; rwa [if_pos (by omega)] at h
    replace HZ2 := Lib.hid HZ2
    go_enter Try.func3, Try.ntmps3
    go_wp2_with (first | (go_at_call 18; (with_reducible refine (HZ1.out _).mono ?_); rintro e w' ⟨rfl, hb⟩; first | (obtain ⟨x, rfl⟩ := Grow.on x hb) | (obtain ⟨x, rfl⟩ := Grow.mk' hb)) | (go_at_call 19; (with_reducible refine (HZ2.out _).mono ?_); rintro e w' ⟨rfl, hb⟩; first | (obtain ⟨x, rfl⟩ := Grow.on x hb) | (obtain ⟨x, rfl⟩ := Grow.mk' hb)) | (go_at_call 142; (with_reducible refine (s_In _ _ _ _).mono ?_); rintro e w' ⟨rfl, rfl⟩) | (go_at_call 186; (with_reducible refine (i_In _ _ _ _).mono ?_); rintro e w' ⟨rfl, rfl⟩) | (go_at_call 222; (with_reducible refine (s_Rate _ _).mono ?_); rintro e w' ⟨rfl, rfl⟩) | (go_at_call 165; (with_reducible refine (i_Rate _ _).mono ?_); rintro e w' ⟨rfl, rfl⟩) | (go_at_call 262; (with_reducible refine (i_Years _ _).mono ?_); rintro e w' ⟨rfl, rfl⟩) | (go_at_call 227; (with_reducible refine (s_Amount6 _ _).mono ?_); rintro e w' ⟨rfl, rfl⟩) | (go_at_call 236; (with_reducible refine (s_Sum7 _ _).mono ?_); rintro e w' ⟨rfl, rfl⟩) | ((first | with_reducible refine wp_region_in x (by kernel_rfl) (by kernel_rfl) ?_ | with_reducible refine wp_region_here (by kernel_rfl) (by kernel_rfl) ?_); (repeat (go_big_quiet_step ((first | (go_at_call 18; with_reducible exact Ret.grow _ (HZ1.out _)) | (go_at_call 19; with_reducible exact Ret.grow _ (HZ2.out _)) | (go_at_call 142; with_reducible exact Ret.same _ (s_In _ _ _ _)) | (go_at_call 186; with_reducible exact Ret.same _ (i_In _ _ _ _)) | (go_at_call 222; with_reducible exact Ret.same _ (s_Rate _ _)) | (go_at_call 165; with_reducible exact Ret.same _ (i_Rate _ _)) | (go_at_call 262; with_reducible exact Ret.same _ (i_Years _ _)) | (go_at_call 227; with_reducible exact Ret.same _ (s_Amount6 _ _)) | (go_at_call 236; with_reducible exact Ret.same _ (s_Sum7 _ _)))))); refine wpQuiet_nil ?_; intro w' hw'; obtain ⟨x, rfl⟩ := hw'))
    go_ret
    exact ⟨rfl, (by repeat' (first | (with_reducible exact Up.refl _) | (with_reducible assumption) | (with_reducible refine Up.alloc ?_ _) | (with_reducible refine Up.drew ?_) | (with_reducible refine Up.grow ?_ _) | (with_reducible refine Up.setCell ?_ (by (try simp); (try omega)) _)))⟩
  have HZ2 : ∀ w, Calls Try.prog 19 #[.slice A' n c', .int .i64 (1048576 - T.n)] w (Ret w (.int .i64 (1048576 - T.n - n))) := fun w => by have h := l_SzH A' n c' (by omega) (1048576 - T.n) (by omega) (by omega) w; rwa [if_neg (by omega)] at h
  replace HZ2 := Lib.hid HZ2
  have hb2 : n ≤ 1048576 := by omega
  have hv : BasAt w T r (.agg #[.int .i64 T.first, .slice A T.n c, .int .i64 r]) := ⟨A, c, rfl, hn, hc, hb, hI⟩
  replace HS := Lib.hid (HS.out hb2)
  replace HI := Lib.hid (HI.out hb2)
  clear hI
  go_enter Try.func3, Try.ntmps3
  go_wp2_with fail
  refine (HZ1.out _).mono ?_; rintro e w1 ⟨rfl, hs1⟩
  have hA : Blk w1 w.heap.size 26 _ := (Blk.new _ _ _).up hs1
  have hup : Up w w1 := (Up.alloc (Up.refl w) _).trans hs1
  have a0 := hA.cell 0; have a1 := hA.cell 1; have a2 := hA.cell 2; have iA := hA.inw
  clear hs1
  go_wp2_with fail
  refine (HZ2.out _).mono ?_; rintro e w2 ⟨rfl, hs2⟩
  have hA := hA.up hs2; have hup := hup.trans hs2
  have a0 := hA.cell 0; have a1 := hA.cell 1; have a2 := hA.cell 2; have iA := hA.inw
  clear hs2
  go_wp2_with fail
  refine (l_CopyB T r hb _ _ (hv.up hup)).mono ?_; rintro e w3 ⟨v1, rfl, hs3, hT1⟩
  have hA := hA.up hs3; have hup := hup.trans hs3
  have a0 := hA.cell 0; have a1 := hA.cell 1; have a2 := hA.cell 2; have iA := hA.inw
  clear hs3
  go_wp2_with fail
  refine (l_CopyH A' n c' g hb2 _ (hH.up hup)).mono ?_; rintro e w4 ⟨v2, rfl, hs4, hH1⟩
  have hA := hA.up hs4; have hup := hup.trans hs4
  have a0 := hA.cell 0; have a1 := hA.cell 1; have a2 := hA.cell 2; have iA := hA.inw
  go_wp2_with fail
  refine (HS.out _ _ _ (hT1.up hs4).bas hH1).mono ?_; rintro e w5 ⟨rfl, hs5⟩
  have hA := hA.up hs5; have hup := hup.trans hs5
  have a0 := hA.cell 0; have a1 := hA.cell 1; have a2 := hA.cell 2; have iA := hA.inw
  clear hs4 hs5 hT1 hH1
  go_wp2_with fail
  refine (l_CopyB T r hb _ _ (hv.up hup)).mono ?_; rintro e w6 ⟨v3, rfl, hs6, hX2⟩
  have hX := hX2
  obtain ⟨_, A2, c2, rfl, _⟩ := hX
  have hA := hA.up hs6; have hup := hup.trans hs6
  have a0 := hA.cell 0; have a1 := hA.cell 1; have a2 := hA.cell 2; have iA := hA.inw
  clear hs6
  go_wp2_with fail
  refine (l_CopyH A' n c' g hb2 _ (hH.up (hup.alloc _))).mono ?_; rintro e w7 ⟨v4, rfl, hs7, hY⟩
  have hX : Blk w7 w6.heap.size 33 _ := (Blk.new _ _ _).up hs7
  have hA := (hA.alloc _).up hs7; have hup := (hup.alloc _).trans hs7
  have hX2 := (hX2.up (Up.alloc (Up.refl _) _)).up hs7
  clear hs7
  generalize w6.heap.size = B6 at *
  have a0 := hA.cell 0; have a1 := hA.cell 1; have a2 := hA.cell 2; have iA := hA.inw
  have x0 := hX.cell 0; have x1 := hX.cell 1; have x2 := hX.cell 2; have iX := hX.inw
  go_wp2_with fail
  refine (HI.out _ _ _ hX2.bas hY).mono ?_; rintro e w8 ⟨rfl, hs8⟩
  have hA := hA.up hs8; have hX := hX.up hs8; have hup := hup.trans hs8; have hX2 := hX2.up hs8; have hY := hY.up hs8
  have a0 := hA.cell 0; have a1 := hA.cell 1; have a2 := hA.cell 2; have iA := hA.inw
  have x0 := hX.cell 0; have x1 := hX.cell 1; have x2 := hX.cell 2; have iX := hX.inw
  clear hs8
  go_wp2_with fail
  go_region_held3 (fun w' => w'.cell? ⟨B6, 0, none⟩ = some (.int .i64 T.first) ∧ w'.cell? ⟨B6, 1, none⟩ = some (.slice A2 T.n c2) ∧ w'.cell? ⟨B6, 2, none⟩ = some (.int .i64 r) ∧ w'.cell? ⟨w.heap.size, 0, none⟩ = some (.int .i64 T.first) ∧ w'.cell? ⟨w.heap.size, 1, none⟩ = some (.slice A T.n c) ∧ w'.cell? ⟨w.heap.size, 2, none⟩ = some (.int .i64 r)) ((repeat' apply And.intro) <;> go_simp)
    (first
      | (go_at_call 21; ((with_reducible refine (l_CopyB T r hb _ _ (hv.up (hup.trans (by repeat' (first | (with_reducible exact Up.refl _) | (with_reducible assumption) | (with_reducible refine Up.alloc ?_ _) | (with_reducible refine Up.drew ?_) | (with_reducible refine Up.grow ?_ _) | (with_reducible refine Up.setCell ?_ (by (try simp); (try omega)) _)))))).mono ?_); rintro e w10 ⟨v5, rfl, hb10, hT3⟩; have hb10 := (Up.drew (Up.refl w8)).trans hb10; have hA := hA.up hb10; have hX := hX.up hb10; have hup := hup.trans hb10; have hX2 := hX2.up hb10; have a0 := hA.cell 0; have a1 := hA.cell 1; have a2 := hA.cell 2; have x0 := hX.cell 0; have x1 := hX.cell 1; have x2 := hX.cell 2))
      | (go_at_call 24; ((with_reducible refine (l_EqB T r _ _ _ hX2.bas hT3.bas).mono ?_); rintro e w11 ⟨rfl, hb11⟩; have hA := hA.up hb11; have hX := hX.up hb11; have hup := hup.trans hb11; have a0 := hA.cell 0; have a1 := hA.cell 1; have a2 := hA.cell 2; have x0 := hX.cell 0; have x1 := hX.cell 1; have x2 := hX.cell 2)))
  have hY := hY.up (hb10.trans hb11)
  clear a0 a1 a2 x0 x1 x2 iX iA hX2 hT3 hb10 hb11 hX hA
  go_wp2_with fail
  refine (l_CopyH A' n c' g hb2 _ (hH.up hup)).mono ?_; rintro e w12 ⟨v6, rfl, hs12, hY3⟩
  have hup := hup.trans hs12; have hY := hY.up hs12
  go_wp2_with fail
  refine (l_EqH v4 v6 n g hb2 _ hY hY3).mono ?_; rintro e w13 ⟨rfl, hs13⟩
  have hup := hup.trans hs13
  go_wp2_with fail
  go_ret
  exact ⟨rfl, hup⟩
set_option maxRecDepth 100000 in
set_option maxHeartbeats 4000000 in
theorem l_MaturingSums (T : Tab) (r : Int) (A : Option Addr) (c : Nat) (hn : T.n ≤ c) (hc : c ≤ 9223372036854775807) (A' : Option Addr) (n c' : Nat) (g : Nat → Nat → Int) (hn' : n ≤ c') (hc' : c' ≤ 9223372036854775807) (w : World) (hI : Ints w A T.n T.f) (hH : HInts w A' n g) (q1 q2 : Int)
    (HS : Hid (n ≤ 1048576 → ∀ v vl w, BasAt w T r v → HAt w vl n g → Calls Try.prog 26 #[v, vl] w (Ret w (.tuple #[.int .i64 q1, .int .i64 q2])))) (HI : Hid (n ≤ 1048576 → ∀ v vl w, BasAt w T r v → HAt w vl n g → Calls Try.prog 27 #[v, vl] w (Ret w (.tuple #[.int .i64 q1, .int .i64 q2])))) :
    Calls Try.prog 4 #[.agg #[.int .i64 T.first, .slice A T.n c, .int .i64 r], .slice A' n c'] w (Ret w (.bool true)) := by
  by_cases hb : T.n ≤ 1048576
  case neg =>
    have HZ1 : ∀ w, Calls Try.prog 18 #[.agg #[.int .i64 T.first, .slice A T.n c, .int .i64 r], .int .i64 1048576] w (Ret w (.int .i64 (-1))) := fun w => by have h := l_SzB T r A c (by omega) 1048576 (by omega) (by omega) w; rwa [if_pos (by omega)] at h
    replace HZ1 := Lib.hid HZ1
    go_enter Try.func4, Try.ntmps4
    go_wp2_with (go_at_call 18; refine (HZ1.out _).mono ?_; rintro e w' ⟨rfl, hb⟩; first | (obtain ⟨x, rfl⟩ := Grow.on x hb) | (obtain ⟨x, rfl⟩ := Grow.mk' hb))
    go_ret
    exact ⟨rfl, (by repeat' (first | (with_reducible exact Up.refl _) | (with_reducible assumption) | (with_reducible refine Up.alloc ?_ _) | (with_reducible refine Up.drew ?_) | (with_reducible refine Up.grow ?_ _) | (with_reducible refine Up.setCell ?_ (by (try simp); (try omega)) _)))⟩
  have HZ1 : ∀ w, Calls Try.prog 18 #[.agg #[.int .i64 T.first, .slice A T.n c, .int .i64 r], .int .i64 1048576] w (Ret w (.int .i64 (1048576 - T.n))) := fun w => by have h := l_SzB T r A c (by omega) 1048576 (by omega) (by omega) w; rwa [if_neg (by omega)] at h
  replace HZ1 := Lib.hid HZ1
  by_cases hbb : T.n + n ≤ 1048576
  case neg =>
    have HZ2 : ∀ w, Calls Try.prog 19 #[.slice A' n c', .int .i64 (1048576 - T.n)] w (Ret w (.int .i64 (-1))) := fun w => by have h := l_SzH A' n c' (by omega) (1048576 - T.n) (by omega) (by omega) w; rwa [if_pos (by omega)] at h
    replace HZ2 := Lib.hid HZ2
    go_enter Try.func4, Try.ntmps4
    go_wp2_with (first | (go_at_call 18; (with_reducible refine (HZ1.out _).mono ?_); rintro e w' ⟨rfl, hb⟩; first | (obtain ⟨x, rfl⟩ := Grow.on x hb) | (obtain ⟨x, rfl⟩ := Grow.mk' hb)) | (go_at_call 19; (with_reducible refine (HZ2.out _).mono ?_); rintro e w' ⟨rfl, hb⟩; first | (obtain ⟨x, rfl⟩ := Grow.on x hb) | (obtain ⟨x, rfl⟩ := Grow.mk' hb)) | (go_at_call 142; (with_reducible refine (s_In _ _ _ _).mono ?_); rintro e w' ⟨rfl, rfl⟩) | (go_at_call 186; (with_reducible refine (i_In _ _ _ _).mono ?_); rintro e w' ⟨rfl, rfl⟩) | (go_at_call 222; (with_reducible refine (s_Rate _ _).mono ?_); rintro e w' ⟨rfl, rfl⟩) | (go_at_call 165; (with_reducible refine (i_Rate _ _).mono ?_); rintro e w' ⟨rfl, rfl⟩) | (go_at_call 262; (with_reducible refine (i_Years _ _).mono ?_); rintro e w' ⟨rfl, rfl⟩) | (go_at_call 227; (with_reducible refine (s_Amount6 _ _).mono ?_); rintro e w' ⟨rfl, rfl⟩) | (go_at_call 236; (with_reducible refine (s_Sum7 _ _).mono ?_); rintro e w' ⟨rfl, rfl⟩) | ((first | with_reducible refine wp_region_in x (by kernel_rfl) (by kernel_rfl) ?_ | with_reducible refine wp_region_here (by kernel_rfl) (by kernel_rfl) ?_); (repeat (go_big_quiet_step ((first | (go_at_call 18; with_reducible exact Ret.grow _ (HZ1.out _)) | (go_at_call 19; with_reducible exact Ret.grow _ (HZ2.out _)) | (go_at_call 142; with_reducible exact Ret.same _ (s_In _ _ _ _)) | (go_at_call 186; with_reducible exact Ret.same _ (i_In _ _ _ _)) | (go_at_call 222; with_reducible exact Ret.same _ (s_Rate _ _)) | (go_at_call 165; with_reducible exact Ret.same _ (i_Rate _ _)) | (go_at_call 262; with_reducible exact Ret.same _ (i_Years _ _)) | (go_at_call 227; with_reducible exact Ret.same _ (s_Amount6 _ _)) | (go_at_call 236; with_reducible exact Ret.same _ (s_Sum7 _ _)))))); refine wpQuiet_nil ?_; intro w' hw'; obtain ⟨x, rfl⟩ := hw'))
    go_ret
    exact ⟨rfl, (by repeat' (first | (with_reducible exact Up.refl _) | (with_reducible assumption) | (with_reducible refine Up.alloc ?_ _) | (with_reducible refine Up.drew ?_) | (with_reducible refine Up.grow ?_ _) | (with_reducible refine Up.setCell ?_ (by (try simp); (try omega)) _)))⟩
  have HZ2 : ∀ w, Calls Try.prog 19 #[.slice A' n c', .int .i64 (1048576 - T.n)] w (Ret w (.int .i64 (1048576 - T.n - n))) := fun w => by have h := l_SzH A' n c' (by omega) (1048576 - T.n) (by omega) (by omega) w; rwa [if_neg (by omega)] at h
  replace HZ2 := Lib.hid HZ2
  have hb2 : n ≤ 1048576 := by omega
  have hv : BasAt w T r (.agg #[.int .i64 T.first, .slice A T.n c, .int .i64 r]) := ⟨A, c, rfl, hn, hc, hb, hI⟩
  replace HS := Lib.hid (HS.out hb2)
  replace HI := Lib.hid (HI.out hb2)
  clear hI
  go_enter Try.func4, Try.ntmps4
  go_wp2_with fail
  refine (HZ1.out _).mono ?_; rintro e w1 ⟨rfl, hs1⟩
  have hA : Blk w1 w.heap.size 26 _ := (Blk.new _ _ _).up hs1
  have hup : Up w w1 := (Up.alloc (Up.refl w) _).trans hs1
  have a0 := hA.cell 0; have a1 := hA.cell 1; have a2 := hA.cell 2; have iA := hA.inw
  clear hs1
  go_wp2_with fail
  refine (HZ2.out _).mono ?_; rintro e w2 ⟨rfl, hs2⟩
  have hA := hA.up hs2; have hup := hup.trans hs2
  have a0 := hA.cell 0; have a1 := hA.cell 1; have a2 := hA.cell 2; have iA := hA.inw
  clear hs2
  go_wp2_with fail
  refine (l_CopyB T r hb _ _ (hv.up hup)).mono ?_; rintro e w3 ⟨v1, rfl, hs3, hT1⟩
  have hA := hA.up hs3; have hup := hup.trans hs3
  have a0 := hA.cell 0; have a1 := hA.cell 1; have a2 := hA.cell 2; have iA := hA.inw
  clear hs3
  go_wp2_with fail
  refine (l_CopyH A' n c' g hb2 _ (hH.up hup)).mono ?_; rintro e w4 ⟨v2, rfl, hs4, hH1⟩
  have hA := hA.up hs4; have hup := hup.trans hs4
  have a0 := hA.cell 0; have a1 := hA.cell 1; have a2 := hA.cell 2; have iA := hA.inw
  go_wp2_with fail
  refine (HS.out _ _ _ (hT1.up hs4).bas hH1).mono ?_; rintro e w5 ⟨rfl, hs5⟩
  have hA := hA.up hs5; have hup := hup.trans hs5
  have a0 := hA.cell 0; have a1 := hA.cell 1; have a2 := hA.cell 2; have iA := hA.inw
  clear hs4 hs5 hT1 hH1
  go_wp2_with fail
  refine (l_CopyB T r hb _ _ (hv.up hup)).mono ?_; rintro e w6 ⟨v3, rfl, hs6, hX2⟩
  have hX := hX2
  obtain ⟨_, A2, c2, rfl, _⟩ := hX
  have hA := hA.up hs6; have hup := hup.trans hs6
  have a0 := hA.cell 0; have a1 := hA.cell 1; have a2 := hA.cell 2; have iA := hA.inw
  clear hs6
  go_wp2_with fail
  refine (l_CopyH A' n c' g hb2 _ (hH.up (hup.alloc _))).mono ?_; rintro e w7 ⟨v4, rfl, hs7, hY⟩
  have hX : Blk w7 w6.heap.size 33 _ := (Blk.new _ _ _).up hs7
  have hA := (hA.alloc _).up hs7; have hup := (hup.alloc _).trans hs7
  have hX2 := (hX2.up (Up.alloc (Up.refl _) _)).up hs7
  clear hs7
  generalize w6.heap.size = B6 at *
  have a0 := hA.cell 0; have a1 := hA.cell 1; have a2 := hA.cell 2; have iA := hA.inw
  have x0 := hX.cell 0; have x1 := hX.cell 1; have x2 := hX.cell 2; have iX := hX.inw
  go_wp2_with fail
  refine (HI.out _ _ _ hX2.bas hY).mono ?_; rintro e w8 ⟨rfl, hs8⟩
  have hA := hA.up hs8; have hX := hX.up hs8; have hup := hup.trans hs8; have hX2 := hX2.up hs8; have hY := hY.up hs8
  have a0 := hA.cell 0; have a1 := hA.cell 1; have a2 := hA.cell 2; have iA := hA.inw
  have x0 := hX.cell 0; have x1 := hX.cell 1; have x2 := hX.cell 2; have iX := hX.inw
  clear hs8
  go_wp2_with fail
  go_region_held3 (fun w' => w'.cell? ⟨B6, 0, none⟩ = some (.int .i64 T.first) ∧ w'.cell? ⟨B6, 1, none⟩ = some (.slice A2 T.n c2) ∧ w'.cell? ⟨B6, 2, none⟩ = some (.int .i64 r) ∧ w'.cell? ⟨w.heap.size, 0, none⟩ = some (.int .i64 T.first) ∧ w'.cell? ⟨w.heap.size, 1, none⟩ = some (.slice A T.n c) ∧ w'.cell? ⟨w.heap.size, 2, none⟩ = some (.int .i64 r)) ((repeat' apply And.intro) <;> go_simp)
    (first
      | (go_at_call 21; ((with_reducible refine (l_CopyB T r hb _ _ (hv.up (hup.trans (by repeat' (first | (with_reducible exact Up.refl _) | (with_reducible assumption) | (with_reducible refine Up.alloc ?_ _) | (with_reducible refine Up.drew ?_) | (with_reducible refine Up.grow ?_ _) | (with_reducible refine Up.setCell ?_ (by (try simp); (try omega)) _)))))).mono ?_); rintro e w10 ⟨v5, rfl, hb10, hT3⟩; have hb10 := (Up.drew (Up.refl w8)).trans hb10; have hA := hA.up hb10; have hX := hX.up hb10; have hup := hup.trans hb10; have hX2 := hX2.up hb10; have a0 := hA.cell 0; have a1 := hA.cell 1; have a2 := hA.cell 2; have x0 := hX.cell 0; have x1 := hX.cell 1; have x2 := hX.cell 2))
      | (go_at_call 24; ((with_reducible refine (l_EqB T r _ _ _ hX2.bas hT3.bas).mono ?_); rintro e w11 ⟨rfl, hb11⟩; have hA := hA.up hb11; have hX := hX.up hb11; have hup := hup.trans hb11; have a0 := hA.cell 0; have a1 := hA.cell 1; have a2 := hA.cell 2; have x0 := hX.cell 0; have x1 := hX.cell 1; have x2 := hX.cell 2)))
  have hY := hY.up (hb10.trans hb11)
  clear a0 a1 a2 x0 x1 x2 iX iA hX2 hT3 hb10 hb11 hX hA
  go_wp2_with fail
  refine (l_CopyH A' n c' g hb2 _ (hH.up hup)).mono ?_; rintro e w12 ⟨v6, rfl, hs12, hY3⟩
  have hup := hup.trans hs12; have hY := hY.up hs12
  go_wp2_with fail
  refine (l_EqH v4 v6 n g hb2 _ hY hY3).mono ?_; rintro e w13 ⟨rfl, hs13⟩
  have hup := hup.trans hs13
  go_wp2_with fail
  go_ret
  exact ⟨rfl, hup⟩
set_option maxRecDepth 100000 in
set_option maxHeartbeats 4000000 in
theorem l_ExpectedClaims (T : Tab) (r : Int) (A : Option Addr) (c : Nat) (hn : T.n ≤ c) (hc : c ≤ 9223372036854775807) (A' : Option Addr) (n c' : Nat) (g : Nat → Nat → Int) (hn' : n ≤ c') (hc' : c' ≤ 9223372036854775807) (w : World) (hI : Ints w A T.n T.f) (hH : HInts w A' n g) (q1 q2 : Int)
    (HS : Hid (n ≤ 1048576 → ∀ v vl w, BasAt w T r v → HAt w vl n g → Calls Try.prog 36 #[v, vl] w (Ret w (.tuple #[.int .i64 q1, .int .i64 q2])))) (HI : Hid (n ≤ 1048576 → ∀ v vl w, BasAt w T r v → HAt w vl n g → Calls Try.prog 37 #[v, vl] w (Ret w (.tuple #[.int .i64 q1, .int .i64 q2])))) :
    Calls Try.prog 6 #[.agg #[.int .i64 T.first, .slice A T.n c, .int .i64 r], .slice A' n c'] w (Ret w (.bool true)) := by
  by_cases hb : T.n ≤ 1048576
  case neg =>
    have HZ1 : ∀ w, Calls Try.prog 18 #[.agg #[.int .i64 T.first, .slice A T.n c, .int .i64 r], .int .i64 1048576] w (Ret w (.int .i64 (-1))) := fun w => by have h := l_SzB T r A c (by omega) 1048576 (by omega) (by omega) w; rwa [if_pos (by omega)] at h
    replace HZ1 := Lib.hid HZ1
    go_enter Try.func6, Try.ntmps6
    go_wp2_with (go_at_call 18; refine (HZ1.out _).mono ?_; rintro e w' ⟨rfl, hb⟩; first | (obtain ⟨x, rfl⟩ := Grow.on x hb) | (obtain ⟨x, rfl⟩ := Grow.mk' hb))
    go_ret
    exact ⟨rfl, (by repeat' (first | (with_reducible exact Up.refl _) | (with_reducible assumption) | (with_reducible refine Up.alloc ?_ _) | (with_reducible refine Up.drew ?_) | (with_reducible refine Up.grow ?_ _) | (with_reducible refine Up.setCell ?_ (by (try simp); (try omega)) _)))⟩
  have HZ1 : ∀ w, Calls Try.prog 18 #[.agg #[.int .i64 T.first, .slice A T.n c, .int .i64 r], .int .i64 1048576] w (Ret w (.int .i64 (1048576 - T.n))) := fun w => by have h := l_SzB T r A c (by omega) 1048576 (by omega) (by omega) w; rwa [if_neg (by omega)] at h
  replace HZ1 := Lib.hid HZ1
  by_cases hbb : T.n + n ≤ 1048576
  case neg =>
    have HZ2 : ∀ w, Calls Try.prog 19 #[.slice A' n c', .int .i64 (1048576 - T.n)] w (Ret w (.int .i64 (-1))) := fun w => by have h := l_SzH A' n c' (by omega) (1048576 - T.n) (by omega) (by omega) w; rwa [if_pos (by omega)] at h
    replace HZ2 := Lib.hid HZ2
    go_enter Try.func6, Try.ntmps6
    go_wp2_with (first | (go_at_call 18; (with_reducible refine (HZ1.out _).mono ?_); rintro e w' ⟨rfl, hb⟩; first | (obtain ⟨x, rfl⟩ := Grow.on x hb) | (obtain ⟨x, rfl⟩ := Grow.mk' hb)) | (go_at_call 19; (with_reducible refine (HZ2.out _).mono ?_); rintro e w' ⟨rfl, hb⟩; first | (obtain ⟨x, rfl⟩ := Grow.on x hb) | (obtain ⟨x, rfl⟩ := Grow.mk' hb)) | (go_at_call 142; (with_reducible refine (s_In _ _ _ _).mono ?_); rintro e w' ⟨rfl, rfl⟩) | (go_at_call 186; (with_reducible refine (i_In _ _ _ _).mono ?_); rintro e w' ⟨rfl, rfl⟩) | (go_at_call 222; (with_reducible refine (s_Rate _ _).mono ?_); rintro e w' ⟨rfl, rfl⟩) | (go_at_call 165; (with_reducible refine (i_Rate _ _).mono ?_); rintro e w' ⟨rfl, rfl⟩) | (go_at_call 262; (with_reducible refine (i_Years _ _).mono ?_); rintro e w' ⟨rfl, rfl⟩) | (go_at_call 227; (with_reducible refine (s_Amount6 _ _).mono ?_); rintro e w' ⟨rfl, rfl⟩) | (go_at_call 236; (with_reducible refine (s_Sum7 _ _).mono ?_); rintro e w' ⟨rfl, rfl⟩) | ((first | with_reducible refine wp_region_in x (by kernel_rfl) (by kernel_rfl) ?_ | with_reducible refine wp_region_here (by kernel_rfl) (by kernel_rfl) ?_); (repeat (go_big_quiet_step ((first | (go_at_call 18; with_reducible exact Ret.grow _ (HZ1.out _)) | (go_at_call 19; with_reducible exact Ret.grow _ (HZ2.out _)) | (go_at_call 142; with_reducible exact Ret.same _ (s_In _ _ _ _)) | (go_at_call 186; with_reducible exact Ret.same _ (i_In _ _ _ _)) | (go_at_call 222; with_reducible exact Ret.same _ (s_Rate _ _)) | (go_at_call 165; with_reducible exact Ret.same _ (i_Rate _ _)) | (go_at_call 262; with_reducible exact Ret.same _ (i_Years _ _)) | (go_at_call 227; with_reducible exact Ret.same _ (s_Amount6 _ _)) | (go_at_call 236; with_reducible exact Ret.same _ (s_Sum7 _ _)))))); refine wpQuiet_nil ?_; intro w' hw'; obtain ⟨x, rfl⟩ := hw'))
    go_ret
    exact ⟨rfl, (by repeat' (first | (with_reducible exact Up.refl _) | (with_reducible assumption) | (with_reducible refine Up.alloc ?_ _) | (with_reducible refine Up.drew ?_) | (with_reducible refine Up.grow ?_ _) | (with_reducible refine Up.setCell ?_ (by (try simp); (try omega)) _)))⟩
  have HZ2 : ∀ w, Calls Try.prog 19 #[.slice A' n c', .int .i64 (1048576 - T.n)] w (Ret w (.int .i64 (1048576 - T.n - n))) := fun w => by have h := l_SzH A' n c' (by omega) (1048576 - T.n) (by omega) (by omega) w; rwa [if_neg (by omega)] at h
  replace HZ2 := Lib.hid HZ2
  have hb2 : n ≤ 1048576 := by omega
  have hv : BasAt w T r (.agg #[.int .i64 T.first, .slice A T.n c, .int .i64 r]) := ⟨A, c, rfl, hn, hc, hb, hI⟩
  replace HS := Lib.hid (HS.out hb2)
  replace HI := Lib.hid (HI.out hb2)
  clear hI
  go_enter Try.func6, Try.ntmps6
  go_wp2_with fail
  refine (HZ1.out _).mono ?_; rintro e w1 ⟨rfl, hs1⟩
  have hA : Blk w1 w.heap.size 26 _ := (Blk.new _ _ _).up hs1
  have hup : Up w w1 := (Up.alloc (Up.refl w) _).trans hs1
  have a0 := hA.cell 0; have a1 := hA.cell 1; have a2 := hA.cell 2; have iA := hA.inw
  clear hs1
  go_wp2_with fail
  refine (HZ2.out _).mono ?_; rintro e w2 ⟨rfl, hs2⟩
  have hA := hA.up hs2; have hup := hup.trans hs2
  have a0 := hA.cell 0; have a1 := hA.cell 1; have a2 := hA.cell 2; have iA := hA.inw
  clear hs2
  go_wp2_with fail
  refine (l_CopyB T r hb _ _ (hv.up hup)).mono ?_; rintro e w3 ⟨v1, rfl, hs3, hT1⟩
  have hA := hA.up hs3; have hup := hup.trans hs3
  have a0 := hA.cell 0; have a1 := hA.cell 1; have a2 := hA.cell 2; have iA := hA.inw
  clear hs3
  go_wp2_with fail
  refine (l_CopyH A' n c' g hb2 _ (hH.up hup)).mono ?_; rintro e w4 ⟨v2, rfl, hs4, hH1⟩
  have hA := hA.up hs4; have hup := hup.trans hs4
  have a0 := hA.cell 0; have a1 := hA.cell 1; have a2 := hA.cell 2; have iA := hA.inw
  go_wp2_with fail
  refine (HS.out _ _ _ (hT1.up hs4).bas hH1).mono ?_; rintro e w5 ⟨rfl, hs5⟩
  have hA := hA.up hs5; have hup := hup.trans hs5
  have a0 := hA.cell 0; have a1 := hA.cell 1; have a2 := hA.cell 2; have iA := hA.inw
  clear hs4 hs5 hT1 hH1
  go_wp2_with fail
  refine (l_CopyB T r hb _ _ (hv.up hup)).mono ?_; rintro e w6 ⟨v3, rfl, hs6, hX2⟩
  have hX := hX2
  obtain ⟨_, A2, c2, rfl, _⟩ := hX
  have hA := hA.up hs6; have hup := hup.trans hs6
  have a0 := hA.cell 0; have a1 := hA.cell 1; have a2 := hA.cell 2; have iA := hA.inw
  clear hs6
  go_wp2_with fail
  refine (l_CopyH A' n c' g hb2 _ (hH.up (hup.alloc _))).mono ?_; rintro e w7 ⟨v4, rfl, hs7, hY⟩
  have hX : Blk w7 w6.heap.size 33 _ := (Blk.new _ _ _).up hs7
  have hA := (hA.alloc _).up hs7; have hup := (hup.alloc _).trans hs7
  have hX2 := (hX2.up (Up.alloc (Up.refl _) _)).up hs7
  clear hs7
  generalize w6.heap.size = B6 at *
  have a0 := hA.cell 0; have a1 := hA.cell 1; have a2 := hA.cell 2; have iA := hA.inw
  have x0 := hX.cell 0; have x1 := hX.cell 1; have x2 := hX.cell 2; have iX := hX.inw
  go_wp2_with fail
  refine (HI.out _ _ _ hX2.bas hY).mono ?_; rintro e w8 ⟨rfl, hs8⟩
  have hA := hA.up hs8; have hX := hX.up hs8; have hup := hup.trans hs8; have hX2 := hX2.up hs8; have hY := hY.up hs8
  have a0 := hA.cell 0; have a1 := hA.cell 1; have a2 := hA.cell 2; have iA := hA.inw
  have x0 := hX.cell 0; have x1 := hX.cell 1; have x2 := hX.cell 2; have iX := hX.inw
  clear hs8
  go_wp2_with fail
  go_region_held3 (fun w' => w'.cell? ⟨B6, 0, none⟩ = some (.int .i64 T.first) ∧ w'.cell? ⟨B6, 1, none⟩ = some (.slice A2 T.n c2) ∧ w'.cell? ⟨B6, 2, none⟩ = some (.int .i64 r) ∧ w'.cell? ⟨w.heap.size, 0, none⟩ = some (.int .i64 T.first) ∧ w'.cell? ⟨w.heap.size, 1, none⟩ = some (.slice A T.n c) ∧ w'.cell? ⟨w.heap.size, 2, none⟩ = some (.int .i64 r)) ((repeat' apply And.intro) <;> go_simp)
    (first
      | (go_at_call 21; ((with_reducible refine (l_CopyB T r hb _ _ (hv.up (hup.trans (by repeat' (first | (with_reducible exact Up.refl _) | (with_reducible assumption) | (with_reducible refine Up.alloc ?_ _) | (with_reducible refine Up.drew ?_) | (with_reducible refine Up.grow ?_ _) | (with_reducible refine Up.setCell ?_ (by (try simp); (try omega)) _)))))).mono ?_); rintro e w10 ⟨v5, rfl, hb10, hT3⟩; have hb10 := (Up.drew (Up.refl w8)).trans hb10; have hA := hA.up hb10; have hX := hX.up hb10; have hup := hup.trans hb10; have hX2 := hX2.up hb10; have a0 := hA.cell 0; have a1 := hA.cell 1; have a2 := hA.cell 2; have x0 := hX.cell 0; have x1 := hX.cell 1; have x2 := hX.cell 2))
      | (go_at_call 24; ((with_reducible refine (l_EqB T r _ _ _ hX2.bas hT3.bas).mono ?_); rintro e w11 ⟨rfl, hb11⟩; have hA := hA.up hb11; have hX := hX.up hb11; have hup := hup.trans hb11; have a0 := hA.cell 0; have a1 := hA.cell 1; have a2 := hA.cell 2; have x0 := hX.cell 0; have x1 := hX.cell 1; have x2 := hX.cell 2)))
  have hY := hY.up (hb10.trans hb11)
  clear a0 a1 a2 x0 x1 x2 iX iA hX2 hT3 hb10 hb11 hX hA
  go_wp2_with fail
  refine (l_CopyH A' n c' g hb2 _ (hH.up hup)).mono ?_; rintro e w12 ⟨v6, rfl, hs12, hY3⟩
  have hup := hup.trans hs12; have hY := hY.up hs12
  go_wp2_with fail
  refine (l_EqH v4 v6 n g hb2 _ hY hY3).mono ?_; rintro e w13 ⟨rfl, hs13⟩
  have hup := hup.trans hs13
  go_wp2_with fail
  go_ret
  exact ⟨rfl, hup⟩
end Go.Proofs.Ytdeoampkbbbleaa
