/- Laws of functions of two tables that return numbers and a code: the walk. Condition: the slices read as the tables' numbers. -/
import Derived.Test.YtklnikaakpebnaaLawT
import Derived.Test.YtklnikaakpebnaaLawTS
import Derived.Test.YtklnikaakpebnaaICols
namespace Go.Proofs.Ytklnikaakpebnaa
open Go.RowKit Pu

set_option maxRecDepth 100000 in
set_option maxHeartbeats 4000000 in
theorem l_JointAnnuity (T U : Tab) (A A' : Option Addr) (c c' : Nat) (hn : T.n ≤ c) (hc : c ≤ 9223372036854775807) (hn' : U.n ≤ c') (hc' : c' ≤ 9223372036854775807) (p1 p2 p3 p4 : Int) (w : World) (hI : Ints w A T.n T.f) (hJ : Ints w A' U.n U.f) (q1 q2 : Int)
    (HS : Hid (∀ v z w, TabAt w T v → TabAt w U z → Calls Try.prog 37 #[v, .int .i64 p1, z, .int .i64 p2, .int .i64 p3, .int .i64 p4] w (Ret w (.tuple #[.int .i64 q1, .int .i64 q2])))) (HI : Hid (∀ v z w, TabAt w T v → TabAt w U z → Calls Try.prog 39 #[v, .int .i64 p1, z, .int .i64 p2, .int .i64 p3, .int .i64 p4] w (Ret w (.tuple #[.int .i64 q1, .int .i64 q2])))) :
    Calls Try.prog 3 #[.agg #[.int .i64 T.first, .slice A T.n c], .int .i64 p1, .agg #[.int .i64 U.first, .slice A' U.n c'], .int .i64 p2, .int .i64 p3, .int .i64 p4] w (Ret w (.bool true)) := by
  by_cases hb : T.n ≤ 1048576
  case neg =>
    have HZ1 : ∀ w, Calls Try.prog 36 #[.agg #[.int .i64 T.first, .slice A T.n c], .int .i64 1048576] w (Ret w (.int .i64 (-1))) := fun w => by have h := l_SzT T A c (by omega) 1048576 (by omega) (by omega) w; rwa [if_pos (by omega)] at h
    replace HZ1 := Lib.hid HZ1
    go_enter Try.func3, Try.ntmps3
    go_wp2_with (go_at_call 36; refine (HZ1.out _).mono ?_; rintro e w' ⟨rfl, hb⟩; first | (obtain ⟨x, rfl⟩ := Grow.on x hb) | (obtain ⟨x, rfl⟩ := Grow.mk' hb))
    go_ret
    exact ⟨rfl, (by repeat' (first | (with_reducible exact Up.refl _) | (with_reducible assumption) | (with_reducible refine Up.alloc ?_ _) | (with_reducible refine Up.drew ?_) | (with_reducible refine Up.grow ?_ _) | (with_reducible refine Up.setCell ?_ (by (try simp); (try omega)) _)))⟩
  have HZ1 : ∀ w, Calls Try.prog 36 #[.agg #[.int .i64 T.first, .slice A T.n c], .int .i64 1048576] w (Ret w (.int .i64 (1048576 - T.n))) := fun w => by have h := l_SzT T A c (by omega) 1048576 (by omega) (by omega) w; rwa [if_neg (by omega)] at h
  replace HZ1 := Lib.hid HZ1
  by_cases hbb : T.n + U.n ≤ 1048576
  case neg =>
    have HZ2 : ∀ w, Calls Try.prog 36 #[.agg #[.int .i64 U.first, .slice A' U.n c'], .int .i64 (1048576 - T.n)] w (Ret w (.int .i64 (-1))) := fun w => by have h := l_SzT U A' c' (by omega) (1048576 - T.n) (by omega) (by omega) w; rwa [if_pos (by omega)] at h
    replace HZ2 := Lib.hid HZ2
    go_enter Try.func3, Try.ntmps3
    go_wp2_with (first | (go_at_call 36; ((with_reducible refine (HZ1.out _).mono ?_); rintro e w1 ⟨rfl, hs1⟩; obtain ⟨x, rfl⟩ := Grow.mk' hs1)) | (go_at_call 36; ((with_reducible refine (HZ2.out _).mono ?_); rintro e w1 ⟨rfl, hs2⟩; obtain ⟨y, rfl⟩ := Grow.on x hs2)))
    go_ret
    exact ⟨rfl, (by repeat' (first | (with_reducible exact Up.refl _) | (with_reducible assumption) | (with_reducible refine Up.alloc ?_ _) | (with_reducible refine Up.drew ?_) | (with_reducible refine Up.grow ?_ _) | (with_reducible refine Up.setCell ?_ (by (try simp); (try omega)) _)))⟩
  have HZ2 : ∀ w, Calls Try.prog 36 #[.agg #[.int .i64 U.first, .slice A' U.n c'], .int .i64 (1048576 - T.n)] w (Ret w (.int .i64 (1048576 - T.n - U.n))) := fun w => by have h := l_SzT U A' c' (by omega) (1048576 - T.n) (by omega) (by omega) w; rwa [if_neg (by omega)] at h
  replace HZ2 := Lib.hid HZ2
  have hb2 : U.n ≤ 1048576 := by omega
  have hv : TabAt w T (.agg #[.int .i64 T.first, .slice A T.n c]) := ⟨A, c, rfl, hn, hc, hb, hI⟩
  have hu : TabAt w U (.agg #[.int .i64 U.first, .slice A' U.n c']) := ⟨A', c', rfl, hn', hc', hb2, hJ⟩
  clear hI hJ
  go_enter Try.func3, Try.ntmps3
  go_wp2_with fail
  refine (HZ1.out _).mono ?_; rintro e w1 ⟨rfl, hs1⟩
  have q0 : w1.cell? ⟨w.heap.size + 1, 0, none⟩ = some (.int .i64 U.first) := by
    have h := ((Blk.new (w.alloc (.cells #[.int .i64 T.first, .slice A T.n c] 24)) 24 #[.int .i64 U.first, .slice A' U.n c']).up hs1).cell 0
    rw [World.size_alloc] at h; exact h
  have q1 : w1.cell? ⟨w.heap.size + 1, 1, none⟩ = some (.slice A' U.n c') := by
    have h := ((Blk.new (w.alloc (.cells #[.int .i64 T.first, .slice A T.n c] 24)) 24 #[.int .i64 U.first, .slice A' U.n c']).up hs1).cell 1
    rw [World.size_alloc] at h; exact h
  go_wp2_with fail
  refine (HZ2.out _).mono ?_; rintro e w2 ⟨rfl, hs2⟩
  have hA : Blk w2 w.heap.size 24 _ := (((Blk.new _ _ _).alloc _).up hs1).up hs2
  have hB : Blk w2 (w.heap.size + 1) 24 #[.int .i64 U.first, .slice A' U.n c'] := by
    have h := ((Blk.new (w.alloc (.cells #[.int .i64 T.first, .slice A T.n c] 24)) 24 #[.int .i64 U.first, .slice A' U.n c']).up hs1).up hs2
    simpa only [World.size_alloc] using h
  have hup : Up w w2 := ((Up.alloc (Up.alloc (Up.refl w) _) _).trans hs1).trans hs2
  clear q0 q1 hs1 hs2
  generalize w.heap.size + 1 = B1 at *
  have a0 := hA.cell 0; have a1 := hA.cell 1; have iA := hA.inw
  have b0 := hB.cell 0; have b1 := hB.cell 1; have iB := hB.inw
  go_wp2_with fail
  go_region_held3 (fun w' => w'.cell? ⟨w.heap.size, 0, none⟩ = some (.int .i64 T.first) ∧ w'.cell? ⟨w.heap.size, 1, none⟩ = some (.slice A T.n c) ∧ w'.cell? ⟨B1, 0, none⟩ = some (.int .i64 U.first) ∧ w'.cell? ⟨B1, 1, none⟩ = some (.slice A' U.n c')) ((repeat' apply And.intro) <;> go_simp)
    (first
      | (go_at_call 38; ((with_reducible refine (l_CopyT T hb _ _ (hv.up (hup.trans (by repeat' (first | (with_reducible exact Up.refl _) | (with_reducible assumption) | (with_reducible refine Up.alloc ?_ _) | (with_reducible refine Up.drew ?_) | (with_reducible refine Up.grow ?_ _) | (with_reducible refine Up.setCell ?_ (by (try simp); (try omega)) _)))))).mono ?_); rintro e w3 ⟨v1, rfl, hb3, hT1⟩; have hb3 := (Up.drew (Up.refl w2)).trans hb3; have hA := hA.up hb3; have hB := hB.up hb3; have hup := hup.trans hb3; have a0 := hA.cell 0; have a1 := hA.cell 1; have b0 := hB.cell 0; have b1 := hB.cell 1))
      | (go_at_call 38; ((with_reducible refine (l_CopyT U hb2 _ _ (hu.up hup)).mono ?_); rintro e w4 ⟨v2, rfl, hb4, hU1⟩; have hA := hA.up hb4; have hB := hB.up hb4; have hup := hup.trans hb4; have a0 := hA.cell 0; have a1 := hA.cell 1; have b0 := hB.cell 0; have b1 := hB.cell 1))
      | (go_at_call 37; ((with_reducible refine (HS.out _ _ _ (hT1.tab.up hb4) hU1.tab).mono ?_); rintro e w5 ⟨rfl, hb5⟩; have hA := hA.up hb5; have hB := hB.up hb5; have hup := hup.trans hb5; have a0 := hA.cell 0; have a1 := hA.cell 1; have b0 := hB.cell 0; have b1 := hB.cell 1)))
  have iA := hA.inw; have iB := hB.inw
  clear hT1 hU1 hb3 hb4 hb5
  go_wp2_with fail
  refine (l_CopyT T hb _ _ (hv.up hup)).mono ?_; rintro e w6 ⟨v3, rfl, hb6, hX2⟩
  have hX := hX2
  obtain ⟨_, A2, c2, rfl, _⟩ := hX
  have hA := hA.up hb6; have hB := hB.up hb6; have hup := hup.trans hb6
  have a0 := hA.cell 0; have a1 := hA.cell 1; have iA := hA.inw
  have b0 := hB.cell 0; have b1 := hB.cell 1; have iB := hB.inw
  go_wp2_with fail
  refine (l_CopyT U hb2 _ _ (hu.up (hup.alloc _))).mono ?_; rintro e w7 ⟨v4, rfl, hb7, hY2⟩
  have hY := hY2
  obtain ⟨_, A3, c3, rfl, _⟩ := hY
  have hX : Blk w7 w6.heap.size 28 _ := (Blk.new _ _ _).up hb7
  have hA := (hA.alloc _).up hb7; have hB := (hB.alloc _).up hb7; have hup := (hup.alloc _).trans hb7
  have hX2 := (hX2.up (Up.alloc (Up.refl _) _)).up hb7
  have a0 := hA.cell 0; have a1 := hA.cell 1; have iA := hA.inw
  have b0 := hB.cell 0; have b1 := hB.cell 1; have iB := hB.inw
  have x0 := hX.cell 0; have x1 := hX.cell 1; have iX := hX.inw
  go_wp2_with fail
  refine (HI.out _ _ _ (hX2.tab.up (by repeat' (first | (with_reducible exact Up.refl _) | (with_reducible assumption) | (with_reducible refine Up.alloc ?_ _) | (with_reducible refine Up.drew ?_) | (with_reducible refine Up.grow ?_ _) | (with_reducible refine Up.setCell ?_ (by (try simp); (try omega)) _)))) (hY2.tab.up (by repeat' (first | (with_reducible exact Up.refl _) | (with_reducible assumption) | (with_reducible refine Up.alloc ?_ _) | (with_reducible refine Up.drew ?_) | (with_reducible refine Up.grow ?_ _) | (with_reducible refine Up.setCell ?_ (by (try simp); (try omega)) _))))).mono ?_; rintro e w8 ⟨rfl, hb8⟩
  have hY : Blk w8 w7.heap.size 28 _ := (Blk.new _ _ _).up hb8
  have hA := (hA.alloc _).up hb8; have hB := (hB.alloc _).up hb8; have hX := (hX.alloc _).up hb8; have hup := (hup.alloc _).trans hb8
  have hX2 := (hX2.up (Up.alloc (Up.refl _) _)).up hb8; have hY2 := (hY2.up (Up.alloc (Up.refl _) _)).up hb8
  have a0 := hA.cell 0; have a1 := hA.cell 1; have iA := hA.inw
  have b0 := hB.cell 0; have b1 := hB.cell 1; have iB := hB.inw
  have x0 := hX.cell 0; have x1 := hX.cell 1; have iX := hX.inw
  have y0 := hY.cell 0; have y1 := hY.cell 1; have iY := hY.inw
  clear hb6 hb7 hb8
  go_wp2_with fail
  go_region_held3 (fun w' => w'.cell? ⟨w.heap.size, 0, none⟩ = some (.int .i64 T.first) ∧ w'.cell? ⟨w.heap.size, 1, none⟩ = some (.slice A T.n c) ∧ w'.cell? ⟨w6.heap.size, 0, none⟩ = some (.int .i64 T.first) ∧ w'.cell? ⟨w6.heap.size, 1, none⟩ = some (.slice A2 T.n c2)) ((repeat' apply And.intro) <;> go_simp)
    (first
      | (go_at_call 38; ((with_reducible refine (l_CopyT T hb _ _ (hv.up (hup.trans (by repeat' (first | (with_reducible exact Up.refl _) | (with_reducible assumption) | (with_reducible refine Up.alloc ?_ _) | (with_reducible refine Up.drew ?_) | (with_reducible refine Up.grow ?_ _) | (with_reducible refine Up.setCell ?_ (by (try simp); (try omega)) _)))))).mono ?_); rintro e w9 ⟨v5, rfl, hb9, hT3⟩; have hb9 := (Up.drew (Up.refl w8)).trans hb9; have hA := hA.up hb9; have hB := hB.up hb9; have hX := hX.up hb9; have hY := hY.up hb9; have a0 := hA.cell 0; have a1 := hA.cell 1; have x0 := hX.cell 0; have x1 := hX.cell 1))
      | (go_at_call 40; ((with_reducible refine (l_EqT T _ _ _ (hX2.tab.up hb9) hT3.tab).mono ?_); rintro e w10 ⟨rfl, hb10⟩; have hA := hA.up hb10; have hB := hB.up hb10; have hX := hX.up hb10; have hY := hY.up hb10; have a0 := hA.cell 0; have a1 := hA.cell 1; have x0 := hX.cell 0; have x1 := hX.cell 1)))
  have hd : Up w8 w10 := hb9.trans hb10
  have hup := hup.trans hd; have hY2 := hY2.up hd
  have b0 := hB.cell 0; have b1 := hB.cell 1; have iB := hB.inw
  have y0 := hY.cell 0; have y1 := hY.cell 1; have iY := hY.inw
  clear hd hb9 hb10 hT3 hX2 hX hA a0 a1 x0 x1 iX iA
  go_wp2_with fail
  go_region_held3 (fun w' => w'.cell? ⟨B1, 0, none⟩ = some (.int .i64 U.first) ∧ w'.cell? ⟨B1, 1, none⟩ = some (.slice A' U.n c') ∧ w'.cell? ⟨w7.heap.size, 0, none⟩ = some (.int .i64 U.first) ∧ w'.cell? ⟨w7.heap.size, 1, none⟩ = some (.slice A3 U.n c3)) ((repeat' apply And.intro) <;> go_simp)
    (first
      | (go_at_call 38; ((with_reducible refine (l_CopyT U hb2 _ _ (hu.up (hup.trans (by repeat' (first | (with_reducible exact Up.refl _) | (with_reducible assumption) | (with_reducible refine Up.alloc ?_ _) | (with_reducible refine Up.drew ?_) | (with_reducible refine Up.grow ?_ _) | (with_reducible refine Up.setCell ?_ (by (try simp); (try omega)) _)))))).mono ?_); rintro e w11 ⟨v5, rfl, hb9, hT3⟩; have hb9 := (Up.drew (Up.refl w10)).trans hb9; have hB := hB.up hb9; have hY := hY.up hb9; have b0 := hB.cell 0; have b1 := hB.cell 1; have y0 := hY.cell 0; have y1 := hY.cell 1))
      | (go_at_call 40; ((with_reducible refine (l_EqT U _ _ _ (hY2.tab.up hb9) hT3.tab).mono ?_); rintro e w12 ⟨rfl, hb10⟩; have hB := hB.up hb10; have hY := hY.up hb10; have b0 := hB.cell 0; have b1 := hB.cell 1; have y0 := hY.cell 0; have y1 := hY.cell 1)))
  have hup := hup.trans (hb9.trans hb10)
  go_wp2_with fail
  go_ret
  exact ⟨rfl, hup⟩
set_option maxRecDepth 100000 in
set_option maxHeartbeats 4000000 in
theorem l_WidowAnnuity (T U : Tab) (A A' : Option Addr) (c c' : Nat) (hn : T.n ≤ c) (hc : c ≤ 9223372036854775807) (hn' : U.n ≤ c') (hc' : c' ≤ 9223372036854775807) (p1 p2 p3 p4 : Int) (w : World) (hI : Ints w A T.n T.f) (hJ : Ints w A' U.n U.f) (q1 q2 : Int)
    (HS : Hid (∀ v z w, TabAt w T v → TabAt w U z → Calls Try.prog 41 #[v, .int .i64 p1, z, .int .i64 p2, .int .i64 p3, .int .i64 p4] w (Ret w (.tuple #[.int .i64 q1, .int .i64 q2])))) (HI : Hid (∀ v z w, TabAt w T v → TabAt w U z → Calls Try.prog 42 #[v, .int .i64 p1, z, .int .i64 p2, .int .i64 p3, .int .i64 p4] w (Ret w (.tuple #[.int .i64 q1, .int .i64 q2])))) :
    Calls Try.prog 4 #[.agg #[.int .i64 T.first, .slice A T.n c], .int .i64 p1, .agg #[.int .i64 U.first, .slice A' U.n c'], .int .i64 p2, .int .i64 p3, .int .i64 p4] w (Ret w (.bool true)) := by
  by_cases hb : T.n ≤ 1048576
  case neg =>
    have HZ1 : ∀ w, Calls Try.prog 36 #[.agg #[.int .i64 T.first, .slice A T.n c], .int .i64 1048576] w (Ret w (.int .i64 (-1))) := fun w => by have h := l_SzT T A c (by omega) 1048576 (by omega) (by omega) w; rwa [if_pos (by omega)] at h
    replace HZ1 := Lib.hid HZ1
    go_enter Try.func4, Try.ntmps4
    go_wp2_with (go_at_call 36; refine (HZ1.out _).mono ?_; rintro e w' ⟨rfl, hb⟩; first | (obtain ⟨x, rfl⟩ := Grow.on x hb) | (obtain ⟨x, rfl⟩ := Grow.mk' hb))
    go_ret
    exact ⟨rfl, (by repeat' (first | (with_reducible exact Up.refl _) | (with_reducible assumption) | (with_reducible refine Up.alloc ?_ _) | (with_reducible refine Up.drew ?_) | (with_reducible refine Up.grow ?_ _) | (with_reducible refine Up.setCell ?_ (by (try simp); (try omega)) _)))⟩
  have HZ1 : ∀ w, Calls Try.prog 36 #[.agg #[.int .i64 T.first, .slice A T.n c], .int .i64 1048576] w (Ret w (.int .i64 (1048576 - T.n))) := fun w => by have h := l_SzT T A c (by omega) 1048576 (by omega) (by omega) w; rwa [if_neg (by omega)] at h
  replace HZ1 := Lib.hid HZ1
  by_cases hbb : T.n + U.n ≤ 1048576
  case neg =>
    have HZ2 : ∀ w, Calls Try.prog 36 #[.agg #[.int .i64 U.first, .slice A' U.n c'], .int .i64 (1048576 - T.n)] w (Ret w (.int .i64 (-1))) := fun w => by have h := l_SzT U A' c' (by omega) (1048576 - T.n) (by omega) (by omega) w; rwa [if_pos (by omega)] at h
    replace HZ2 := Lib.hid HZ2
    go_enter Try.func4, Try.ntmps4
    go_wp2_with (first | (go_at_call 36; ((with_reducible refine (HZ1.out _).mono ?_); rintro e w1 ⟨rfl, hs1⟩; obtain ⟨x, rfl⟩ := Grow.mk' hs1)) | (go_at_call 36; ((with_reducible refine (HZ2.out _).mono ?_); rintro e w1 ⟨rfl, hs2⟩; obtain ⟨y, rfl⟩ := Grow.on x hs2)))
    go_ret
    exact ⟨rfl, (by repeat' (first | (with_reducible exact Up.refl _) | (with_reducible assumption) | (with_reducible refine Up.alloc ?_ _) | (with_reducible refine Up.drew ?_) | (with_reducible refine Up.grow ?_ _) | (with_reducible refine Up.setCell ?_ (by (try simp); (try omega)) _)))⟩
  have HZ2 : ∀ w, Calls Try.prog 36 #[.agg #[.int .i64 U.first, .slice A' U.n c'], .int .i64 (1048576 - T.n)] w (Ret w (.int .i64 (1048576 - T.n - U.n))) := fun w => by have h := l_SzT U A' c' (by omega) (1048576 - T.n) (by omega) (by omega) w; rwa [if_neg (by omega)] at h
  replace HZ2 := Lib.hid HZ2
  have hb2 : U.n ≤ 1048576 := by omega
  have hv : TabAt w T (.agg #[.int .i64 T.first, .slice A T.n c]) := ⟨A, c, rfl, hn, hc, hb, hI⟩
  have hu : TabAt w U (.agg #[.int .i64 U.first, .slice A' U.n c']) := ⟨A', c', rfl, hn', hc', hb2, hJ⟩
  clear hI hJ
  go_enter Try.func4, Try.ntmps4
  go_wp2_with fail
  refine (HZ1.out _).mono ?_; rintro e w1 ⟨rfl, hs1⟩
  have q0 : w1.cell? ⟨w.heap.size + 1, 0, none⟩ = some (.int .i64 U.first) := by
    have h := ((Blk.new (w.alloc (.cells #[.int .i64 T.first, .slice A T.n c] 24)) 24 #[.int .i64 U.first, .slice A' U.n c']).up hs1).cell 0
    rw [World.size_alloc] at h; exact h
  have q1 : w1.cell? ⟨w.heap.size + 1, 1, none⟩ = some (.slice A' U.n c') := by
    have h := ((Blk.new (w.alloc (.cells #[.int .i64 T.first, .slice A T.n c] 24)) 24 #[.int .i64 U.first, .slice A' U.n c']).up hs1).cell 1
    rw [World.size_alloc] at h; exact h
  go_wp2_with fail
  refine (HZ2.out _).mono ?_; rintro e w2 ⟨rfl, hs2⟩
  have hA : Blk w2 w.heap.size 24 _ := (((Blk.new _ _ _).alloc _).up hs1).up hs2
  have hB : Blk w2 (w.heap.size + 1) 24 #[.int .i64 U.first, .slice A' U.n c'] := by
    have h := ((Blk.new (w.alloc (.cells #[.int .i64 T.first, .slice A T.n c] 24)) 24 #[.int .i64 U.first, .slice A' U.n c']).up hs1).up hs2
    simpa only [World.size_alloc] using h
  have hup : Up w w2 := ((Up.alloc (Up.alloc (Up.refl w) _) _).trans hs1).trans hs2
  clear q0 q1 hs1 hs2
  generalize w.heap.size + 1 = B1 at *
  have a0 := hA.cell 0; have a1 := hA.cell 1; have iA := hA.inw
  have b0 := hB.cell 0; have b1 := hB.cell 1; have iB := hB.inw
  go_wp2_with fail
  go_region_held3 (fun w' => w'.cell? ⟨w.heap.size, 0, none⟩ = some (.int .i64 T.first) ∧ w'.cell? ⟨w.heap.size, 1, none⟩ = some (.slice A T.n c) ∧ w'.cell? ⟨B1, 0, none⟩ = some (.int .i64 U.first) ∧ w'.cell? ⟨B1, 1, none⟩ = some (.slice A' U.n c')) ((repeat' apply And.intro) <;> go_simp)
    (first
      | (go_at_call 38; ((with_reducible refine (l_CopyT T hb _ _ (hv.up (hup.trans (by repeat' (first | (with_reducible exact Up.refl _) | (with_reducible assumption) | (with_reducible refine Up.alloc ?_ _) | (with_reducible refine Up.drew ?_) | (with_reducible refine Up.grow ?_ _) | (with_reducible refine Up.setCell ?_ (by (try simp); (try omega)) _)))))).mono ?_); rintro e w3 ⟨v1, rfl, hb3, hT1⟩; have hb3 := (Up.drew (Up.refl w2)).trans hb3; have hA := hA.up hb3; have hB := hB.up hb3; have hup := hup.trans hb3; have a0 := hA.cell 0; have a1 := hA.cell 1; have b0 := hB.cell 0; have b1 := hB.cell 1))
      | (go_at_call 38; ((with_reducible refine (l_CopyT U hb2 _ _ (hu.up hup)).mono ?_); rintro e w4 ⟨v2, rfl, hb4, hU1⟩; have hA := hA.up hb4; have hB := hB.up hb4; have hup := hup.trans hb4; have a0 := hA.cell 0; have a1 := hA.cell 1; have b0 := hB.cell 0; have b1 := hB.cell 1))
      | (go_at_call 41; ((with_reducible refine (HS.out _ _ _ (hT1.tab.up hb4) hU1.tab).mono ?_); rintro e w5 ⟨rfl, hb5⟩; have hA := hA.up hb5; have hB := hB.up hb5; have hup := hup.trans hb5; have a0 := hA.cell 0; have a1 := hA.cell 1; have b0 := hB.cell 0; have b1 := hB.cell 1)))
  have iA := hA.inw; have iB := hB.inw
  clear hT1 hU1 hb3 hb4 hb5
  go_wp2_with fail
  refine (l_CopyT T hb _ _ (hv.up hup)).mono ?_; rintro e w6 ⟨v3, rfl, hb6, hX2⟩
  have hX := hX2
  obtain ⟨_, A2, c2, rfl, _⟩ := hX
  have hA := hA.up hb6; have hB := hB.up hb6; have hup := hup.trans hb6
  have a0 := hA.cell 0; have a1 := hA.cell 1; have iA := hA.inw
  have b0 := hB.cell 0; have b1 := hB.cell 1; have iB := hB.inw
  go_wp2_with fail
  refine (l_CopyT U hb2 _ _ (hu.up (hup.alloc _))).mono ?_; rintro e w7 ⟨v4, rfl, hb7, hY2⟩
  have hY := hY2
  obtain ⟨_, A3, c3, rfl, _⟩ := hY
  have hX : Blk w7 w6.heap.size 28 _ := (Blk.new _ _ _).up hb7
  have hA := (hA.alloc _).up hb7; have hB := (hB.alloc _).up hb7; have hup := (hup.alloc _).trans hb7
  have hX2 := (hX2.up (Up.alloc (Up.refl _) _)).up hb7
  have a0 := hA.cell 0; have a1 := hA.cell 1; have iA := hA.inw
  have b0 := hB.cell 0; have b1 := hB.cell 1; have iB := hB.inw
  have x0 := hX.cell 0; have x1 := hX.cell 1; have iX := hX.inw
  go_wp2_with fail
  refine (HI.out _ _ _ (hX2.tab.up (by repeat' (first | (with_reducible exact Up.refl _) | (with_reducible assumption) | (with_reducible refine Up.alloc ?_ _) | (with_reducible refine Up.drew ?_) | (with_reducible refine Up.grow ?_ _) | (with_reducible refine Up.setCell ?_ (by (try simp); (try omega)) _)))) (hY2.tab.up (by repeat' (first | (with_reducible exact Up.refl _) | (with_reducible assumption) | (with_reducible refine Up.alloc ?_ _) | (with_reducible refine Up.drew ?_) | (with_reducible refine Up.grow ?_ _) | (with_reducible refine Up.setCell ?_ (by (try simp); (try omega)) _))))).mono ?_; rintro e w8 ⟨rfl, hb8⟩
  have hY : Blk w8 w7.heap.size 28 _ := (Blk.new _ _ _).up hb8
  have hA := (hA.alloc _).up hb8; have hB := (hB.alloc _).up hb8; have hX := (hX.alloc _).up hb8; have hup := (hup.alloc _).trans hb8
  have hX2 := (hX2.up (Up.alloc (Up.refl _) _)).up hb8; have hY2 := (hY2.up (Up.alloc (Up.refl _) _)).up hb8
  have a0 := hA.cell 0; have a1 := hA.cell 1; have iA := hA.inw
  have b0 := hB.cell 0; have b1 := hB.cell 1; have iB := hB.inw
  have x0 := hX.cell 0; have x1 := hX.cell 1; have iX := hX.inw
  have y0 := hY.cell 0; have y1 := hY.cell 1; have iY := hY.inw
  clear hb6 hb7 hb8
  go_wp2_with fail
  go_region_held3 (fun w' => w'.cell? ⟨w.heap.size, 0, none⟩ = some (.int .i64 T.first) ∧ w'.cell? ⟨w.heap.size, 1, none⟩ = some (.slice A T.n c) ∧ w'.cell? ⟨w6.heap.size, 0, none⟩ = some (.int .i64 T.first) ∧ w'.cell? ⟨w6.heap.size, 1, none⟩ = some (.slice A2 T.n c2)) ((repeat' apply And.intro) <;> go_simp)
    (first
      | (go_at_call 38; ((with_reducible refine (l_CopyT T hb _ _ (hv.up (hup.trans (by repeat' (first | (with_reducible exact Up.refl _) | (with_reducible assumption) | (with_reducible refine Up.alloc ?_ _) | (with_reducible refine Up.drew ?_) | (with_reducible refine Up.grow ?_ _) | (with_reducible refine Up.setCell ?_ (by (try simp); (try omega)) _)))))).mono ?_); rintro e w9 ⟨v5, rfl, hb9, hT3⟩; have hb9 := (Up.drew (Up.refl w8)).trans hb9; have hA := hA.up hb9; have hB := hB.up hb9; have hX := hX.up hb9; have hY := hY.up hb9; have a0 := hA.cell 0; have a1 := hA.cell 1; have x0 := hX.cell 0; have x1 := hX.cell 1))
      | (go_at_call 40; ((with_reducible refine (l_EqT T _ _ _ (hX2.tab.up hb9) hT3.tab).mono ?_); rintro e w10 ⟨rfl, hb10⟩; have hA := hA.up hb10; have hB := hB.up hb10; have hX := hX.up hb10; have hY := hY.up hb10; have a0 := hA.cell 0; have a1 := hA.cell 1; have x0 := hX.cell 0; have x1 := hX.cell 1)))
  have hd : Up w8 w10 := hb9.trans hb10
  have hup := hup.trans hd; have hY2 := hY2.up hd
  have b0 := hB.cell 0; have b1 := hB.cell 1; have iB := hB.inw
  have y0 := hY.cell 0; have y1 := hY.cell 1; have iY := hY.inw
  clear hd hb9 hb10 hT3 hX2 hX hA a0 a1 x0 x1 iX iA
  go_wp2_with fail
  go_region_held3 (fun w' => w'.cell? ⟨B1, 0, none⟩ = some (.int .i64 U.first) ∧ w'.cell? ⟨B1, 1, none⟩ = some (.slice A' U.n c') ∧ w'.cell? ⟨w7.heap.size, 0, none⟩ = some (.int .i64 U.first) ∧ w'.cell? ⟨w7.heap.size, 1, none⟩ = some (.slice A3 U.n c3)) ((repeat' apply And.intro) <;> go_simp)
    (first
      | (go_at_call 38; ((with_reducible refine (l_CopyT U hb2 _ _ (hu.up (hup.trans (by repeat' (first | (with_reducible exact Up.refl _) | (with_reducible assumption) | (with_reducible refine Up.alloc ?_ _) | (with_reducible refine Up.drew ?_) | (with_reducible refine Up.grow ?_ _) | (with_reducible refine Up.setCell ?_ (by (try simp); (try omega)) _)))))).mono ?_); rintro e w11 ⟨v5, rfl, hb9, hT3⟩; have hb9 := (Up.drew (Up.refl w10)).trans hb9; have hB := hB.up hb9; have hY := hY.up hb9; have b0 := hB.cell 0; have b1 := hB.cell 1; have y0 := hY.cell 0; have y1 := hY.cell 1))
      | (go_at_call 40; ((with_reducible refine (l_EqT U _ _ _ (hY2.tab.up hb9) hT3.tab).mono ?_); rintro e w12 ⟨rfl, hb10⟩; have hB := hB.up hb10; have hY := hY.up hb10; have b0 := hB.cell 0; have b1 := hB.cell 1; have y0 := hY.cell 0; have y1 := hY.cell 1)))
  have hup := hup.trans (hb9.trans hb10)
  go_wp2_with fail
  go_ret
  exact ⟨rfl, hup⟩
set_option maxRecDepth 100000 in
set_option maxHeartbeats 4000000 in
theorem l_LastAnnuity (T U : Tab) (A A' : Option Addr) (c c' : Nat) (hn : T.n ≤ c) (hc : c ≤ 9223372036854775807) (hn' : U.n ≤ c') (hc' : c' ≤ 9223372036854775807) (p1 p2 p3 p4 : Int) (w : World) (hI : Ints w A T.n T.f) (hJ : Ints w A' U.n U.f) (q1 q2 : Int)
    (HS : Hid (∀ v z w, TabAt w T v → TabAt w U z → Calls Try.prog 43 #[v, .int .i64 p1, z, .int .i64 p2, .int .i64 p3, .int .i64 p4] w (Ret w (.tuple #[.int .i64 q1, .int .i64 q2])))) (HI : Hid (∀ v z w, TabAt w T v → TabAt w U z → Calls Try.prog 44 #[v, .int .i64 p1, z, .int .i64 p2, .int .i64 p3, .int .i64 p4] w (Ret w (.tuple #[.int .i64 q1, .int .i64 q2])))) :
    Calls Try.prog 5 #[.agg #[.int .i64 T.first, .slice A T.n c], .int .i64 p1, .agg #[.int .i64 U.first, .slice A' U.n c'], .int .i64 p2, .int .i64 p3, .int .i64 p4] w (Ret w (.bool true)) := by
  by_cases hb : T.n ≤ 1048576
  case neg =>
    have HZ1 : ∀ w, Calls Try.prog 36 #[.agg #[.int .i64 T.first, .slice A T.n c], .int .i64 1048576] w (Ret w (.int .i64 (-1))) := fun w => by have h := l_SzT T A c (by omega) 1048576 (by omega) (by omega) w; rwa [if_pos (by omega)] at h
    replace HZ1 := Lib.hid HZ1
    go_enter Try.func5, Try.ntmps5
    go_wp2_with (go_at_call 36; refine (HZ1.out _).mono ?_; rintro e w' ⟨rfl, hb⟩; first | (obtain ⟨x, rfl⟩ := Grow.on x hb) | (obtain ⟨x, rfl⟩ := Grow.mk' hb))
    go_ret
    exact ⟨rfl, (by repeat' (first | (with_reducible exact Up.refl _) | (with_reducible assumption) | (with_reducible refine Up.alloc ?_ _) | (with_reducible refine Up.drew ?_) | (with_reducible refine Up.grow ?_ _) | (with_reducible refine Up.setCell ?_ (by (try simp); (try omega)) _)))⟩
  have HZ1 : ∀ w, Calls Try.prog 36 #[.agg #[.int .i64 T.first, .slice A T.n c], .int .i64 1048576] w (Ret w (.int .i64 (1048576 - T.n))) := fun w => by have h := l_SzT T A c (by omega) 1048576 (by omega) (by omega) w; rwa [if_neg (by omega)] at h
  replace HZ1 := Lib.hid HZ1
  by_cases hbb : T.n + U.n ≤ 1048576
  case neg =>
    have HZ2 : ∀ w, Calls Try.prog 36 #[.agg #[.int .i64 U.first, .slice A' U.n c'], .int .i64 (1048576 - T.n)] w (Ret w (.int .i64 (-1))) := fun w => by have h := l_SzT U A' c' (by omega) (1048576 - T.n) (by omega) (by omega) w; rwa [if_pos (by omega)] at h
    replace HZ2 := Lib.hid HZ2
    go_enter Try.func5, Try.ntmps5
    go_wp2_with (first | (go_at_call 36; ((with_reducible refine (HZ1.out _).mono ?_); rintro e w1 ⟨rfl, hs1⟩; obtain ⟨x, rfl⟩ := Grow.mk' hs1)) | (go_at_call 36; ((with_reducible refine (HZ2.out _).mono ?_); rintro e w1 ⟨rfl, hs2⟩; obtain ⟨y, rfl⟩ := Grow.on x hs2)))
    go_ret
    exact ⟨rfl, (by repeat' (first | (with_reducible exact Up.refl _) | (with_reducible assumption) | (with_reducible refine Up.alloc ?_ _) | (with_reducible refine Up.drew ?_) | (with_reducible refine Up.grow ?_ _) | (with_reducible refine Up.setCell ?_ (by (try simp); (try omega)) _)))⟩
  have HZ2 : ∀ w, Calls Try.prog 36 #[.agg #[.int .i64 U.first, .slice A' U.n c'], .int .i64 (1048576 - T.n)] w (Ret w (.int .i64 (1048576 - T.n - U.n))) := fun w => by have h := l_SzT U A' c' (by omega) (1048576 - T.n) (by omega) (by omega) w; rwa [if_neg (by omega)] at h
  replace HZ2 := Lib.hid HZ2
  have hb2 : U.n ≤ 1048576 := by omega
  have hv : TabAt w T (.agg #[.int .i64 T.first, .slice A T.n c]) := ⟨A, c, rfl, hn, hc, hb, hI⟩
  have hu : TabAt w U (.agg #[.int .i64 U.first, .slice A' U.n c']) := ⟨A', c', rfl, hn', hc', hb2, hJ⟩
  clear hI hJ
  go_enter Try.func5, Try.ntmps5
  go_wp2_with fail
  refine (HZ1.out _).mono ?_; rintro e w1 ⟨rfl, hs1⟩
  have q0 : w1.cell? ⟨w.heap.size + 1, 0, none⟩ = some (.int .i64 U.first) := by
    have h := ((Blk.new (w.alloc (.cells #[.int .i64 T.first, .slice A T.n c] 24)) 24 #[.int .i64 U.first, .slice A' U.n c']).up hs1).cell 0
    rw [World.size_alloc] at h; exact h
  have q1 : w1.cell? ⟨w.heap.size + 1, 1, none⟩ = some (.slice A' U.n c') := by
    have h := ((Blk.new (w.alloc (.cells #[.int .i64 T.first, .slice A T.n c] 24)) 24 #[.int .i64 U.first, .slice A' U.n c']).up hs1).cell 1
    rw [World.size_alloc] at h; exact h
  go_wp2_with fail
  refine (HZ2.out _).mono ?_; rintro e w2 ⟨rfl, hs2⟩
  have hA : Blk w2 w.heap.size 24 _ := (((Blk.new _ _ _).alloc _).up hs1).up hs2
  have hB : Blk w2 (w.heap.size + 1) 24 #[.int .i64 U.first, .slice A' U.n c'] := by
    have h := ((Blk.new (w.alloc (.cells #[.int .i64 T.first, .slice A T.n c] 24)) 24 #[.int .i64 U.first, .slice A' U.n c']).up hs1).up hs2
    simpa only [World.size_alloc] using h
  have hup : Up w w2 := ((Up.alloc (Up.alloc (Up.refl w) _) _).trans hs1).trans hs2
  clear q0 q1 hs1 hs2
  generalize w.heap.size + 1 = B1 at *
  have a0 := hA.cell 0; have a1 := hA.cell 1; have iA := hA.inw
  have b0 := hB.cell 0; have b1 := hB.cell 1; have iB := hB.inw
  go_wp2_with fail
  go_region_held3 (fun w' => w'.cell? ⟨w.heap.size, 0, none⟩ = some (.int .i64 T.first) ∧ w'.cell? ⟨w.heap.size, 1, none⟩ = some (.slice A T.n c) ∧ w'.cell? ⟨B1, 0, none⟩ = some (.int .i64 U.first) ∧ w'.cell? ⟨B1, 1, none⟩ = some (.slice A' U.n c')) ((repeat' apply And.intro) <;> go_simp)
    (first
      | (go_at_call 38; ((with_reducible refine (l_CopyT T hb _ _ (hv.up (hup.trans (by repeat' (first | (with_reducible exact Up.refl _) | (with_reducible assumption) | (with_reducible refine Up.alloc ?_ _) | (with_reducible refine Up.drew ?_) | (with_reducible refine Up.grow ?_ _) | (with_reducible refine Up.setCell ?_ (by (try simp); (try omega)) _)))))).mono ?_); rintro e w3 ⟨v1, rfl, hb3, hT1⟩; have hb3 := (Up.drew (Up.refl w2)).trans hb3; have hA := hA.up hb3; have hB := hB.up hb3; have hup := hup.trans hb3; have a0 := hA.cell 0; have a1 := hA.cell 1; have b0 := hB.cell 0; have b1 := hB.cell 1))
      | (go_at_call 38; ((with_reducible refine (l_CopyT U hb2 _ _ (hu.up hup)).mono ?_); rintro e w4 ⟨v2, rfl, hb4, hU1⟩; have hA := hA.up hb4; have hB := hB.up hb4; have hup := hup.trans hb4; have a0 := hA.cell 0; have a1 := hA.cell 1; have b0 := hB.cell 0; have b1 := hB.cell 1))
      | (go_at_call 43; ((with_reducible refine (HS.out _ _ _ (hT1.tab.up hb4) hU1.tab).mono ?_); rintro e w5 ⟨rfl, hb5⟩; have hA := hA.up hb5; have hB := hB.up hb5; have hup := hup.trans hb5; have a0 := hA.cell 0; have a1 := hA.cell 1; have b0 := hB.cell 0; have b1 := hB.cell 1)))
  have iA := hA.inw; have iB := hB.inw
  clear hT1 hU1 hb3 hb4 hb5
  go_wp2_with fail
  refine (l_CopyT T hb _ _ (hv.up hup)).mono ?_; rintro e w6 ⟨v3, rfl, hb6, hX2⟩
  have hX := hX2
  obtain ⟨_, A2, c2, rfl, _⟩ := hX
  have hA := hA.up hb6; have hB := hB.up hb6; have hup := hup.trans hb6
  have a0 := hA.cell 0; have a1 := hA.cell 1; have iA := hA.inw
  have b0 := hB.cell 0; have b1 := hB.cell 1; have iB := hB.inw
  go_wp2_with fail
  refine (l_CopyT U hb2 _ _ (hu.up (hup.alloc _))).mono ?_; rintro e w7 ⟨v4, rfl, hb7, hY2⟩
  have hY := hY2
  obtain ⟨_, A3, c3, rfl, _⟩ := hY
  have hX : Blk w7 w6.heap.size 28 _ := (Blk.new _ _ _).up hb7
  have hA := (hA.alloc _).up hb7; have hB := (hB.alloc _).up hb7; have hup := (hup.alloc _).trans hb7
  have hX2 := (hX2.up (Up.alloc (Up.refl _) _)).up hb7
  have a0 := hA.cell 0; have a1 := hA.cell 1; have iA := hA.inw
  have b0 := hB.cell 0; have b1 := hB.cell 1; have iB := hB.inw
  have x0 := hX.cell 0; have x1 := hX.cell 1; have iX := hX.inw
  go_wp2_with fail
  refine (HI.out _ _ _ (hX2.tab.up (by repeat' (first | (with_reducible exact Up.refl _) | (with_reducible assumption) | (with_reducible refine Up.alloc ?_ _) | (with_reducible refine Up.drew ?_) | (with_reducible refine Up.grow ?_ _) | (with_reducible refine Up.setCell ?_ (by (try simp); (try omega)) _)))) (hY2.tab.up (by repeat' (first | (with_reducible exact Up.refl _) | (with_reducible assumption) | (with_reducible refine Up.alloc ?_ _) | (with_reducible refine Up.drew ?_) | (with_reducible refine Up.grow ?_ _) | (with_reducible refine Up.setCell ?_ (by (try simp); (try omega)) _))))).mono ?_; rintro e w8 ⟨rfl, hb8⟩
  have hY : Blk w8 w7.heap.size 28 _ := (Blk.new _ _ _).up hb8
  have hA := (hA.alloc _).up hb8; have hB := (hB.alloc _).up hb8; have hX := (hX.alloc _).up hb8; have hup := (hup.alloc _).trans hb8
  have hX2 := (hX2.up (Up.alloc (Up.refl _) _)).up hb8; have hY2 := (hY2.up (Up.alloc (Up.refl _) _)).up hb8
  have a0 := hA.cell 0; have a1 := hA.cell 1; have iA := hA.inw
  have b0 := hB.cell 0; have b1 := hB.cell 1; have iB := hB.inw
  have x0 := hX.cell 0; have x1 := hX.cell 1; have iX := hX.inw
  have y0 := hY.cell 0; have y1 := hY.cell 1; have iY := hY.inw
  clear hb6 hb7 hb8
  go_wp2_with fail
  go_region_held3 (fun w' => w'.cell? ⟨w.heap.size, 0, none⟩ = some (.int .i64 T.first) ∧ w'.cell? ⟨w.heap.size, 1, none⟩ = some (.slice A T.n c) ∧ w'.cell? ⟨w6.heap.size, 0, none⟩ = some (.int .i64 T.first) ∧ w'.cell? ⟨w6.heap.size, 1, none⟩ = some (.slice A2 T.n c2)) ((repeat' apply And.intro) <;> go_simp)
    (first
      | (go_at_call 38; ((with_reducible refine (l_CopyT T hb _ _ (hv.up (hup.trans (by repeat' (first | (with_reducible exact Up.refl _) | (with_reducible assumption) | (with_reducible refine Up.alloc ?_ _) | (with_reducible refine Up.drew ?_) | (with_reducible refine Up.grow ?_ _) | (with_reducible refine Up.setCell ?_ (by (try simp); (try omega)) _)))))).mono ?_); rintro e w9 ⟨v5, rfl, hb9, hT3⟩; have hb9 := (Up.drew (Up.refl w8)).trans hb9; have hA := hA.up hb9; have hB := hB.up hb9; have hX := hX.up hb9; have hY := hY.up hb9; have a0 := hA.cell 0; have a1 := hA.cell 1; have x0 := hX.cell 0; have x1 := hX.cell 1))
      | (go_at_call 40; ((with_reducible refine (l_EqT T _ _ _ (hX2.tab.up hb9) hT3.tab).mono ?_); rintro e w10 ⟨rfl, hb10⟩; have hA := hA.up hb10; have hB := hB.up hb10; have hX := hX.up hb10; have hY := hY.up hb10; have a0 := hA.cell 0; have a1 := hA.cell 1; have x0 := hX.cell 0; have x1 := hX.cell 1)))
  have hd : Up w8 w10 := hb9.trans hb10
  have hup := hup.trans hd; have hY2 := hY2.up hd
  have b0 := hB.cell 0; have b1 := hB.cell 1; have iB := hB.inw
  have y0 := hY.cell 0; have y1 := hY.cell 1; have iY := hY.inw
  clear hd hb9 hb10 hT3 hX2 hX hA a0 a1 x0 x1 iX iA
  go_wp2_with fail
  go_region_held3 (fun w' => w'.cell? ⟨B1, 0, none⟩ = some (.int .i64 U.first) ∧ w'.cell? ⟨B1, 1, none⟩ = some (.slice A' U.n c') ∧ w'.cell? ⟨w7.heap.size, 0, none⟩ = some (.int .i64 U.first) ∧ w'.cell? ⟨w7.heap.size, 1, none⟩ = some (.slice A3 U.n c3)) ((repeat' apply And.intro) <;> go_simp)
    (first
      | (go_at_call 38; ((with_reducible refine (l_CopyT U hb2 _ _ (hu.up (hup.trans (by repeat' (first | (with_reducible exact Up.refl _) | (with_reducible assumption) | (with_reducible refine Up.alloc ?_ _) | (with_reducible refine Up.drew ?_) | (with_reducible refine Up.grow ?_ _) | (with_reducible refine Up.setCell ?_ (by (try simp); (try omega)) _)))))).mono ?_); rintro e w11 ⟨v5, rfl, hb9, hT3⟩; have hb9 := (Up.drew (Up.refl w10)).trans hb9; have hB := hB.up hb9; have hY := hY.up hb9; have b0 := hB.cell 0; have b1 := hB.cell 1; have y0 := hY.cell 0; have y1 := hY.cell 1))
      | (go_at_call 40; ((with_reducible refine (l_EqT U _ _ _ (hY2.tab.up hb9) hT3.tab).mono ?_); rintro e w12 ⟨rfl, hb10⟩; have hB := hB.up hb10; have hY := hY.up hb10; have b0 := hB.cell 0; have b1 := hB.cell 1; have y0 := hY.cell 0; have y1 := hY.cell 1)))
  have hup := hup.trans (hb9.trans hb10)
  go_wp2_with fail
  go_ret
  exact ⟨rfl, hup⟩
set_option maxRecDepth 100000 in
set_option maxHeartbeats 4000000 in
theorem l_WidowYears (T U : Tab) (A A' : Option Addr) (c c' : Nat) (hn : T.n ≤ c) (hc : c ≤ 9223372036854775807) (hn' : U.n ≤ c') (hc' : c' ≤ 9223372036854775807) (p1 p2 : Int) (w : World) (hI : Ints w A T.n T.f) (hJ : Ints w A' U.n U.f) (q1 q2 q3 : Int)
    (HS : Hid (∀ v z w, TabAt w T v → TabAt w U z → Calls Try.prog 45 #[v, .int .i64 p1, z, .int .i64 p2] w (Ret w (.tuple #[.int .i64 q1, .int .i64 q2, .int .i64 q3])))) (HI : Hid (∀ v z w, TabAt w T v → TabAt w U z → Calls Try.prog 46 #[v, .int .i64 p1, z, .int .i64 p2] w (Ret w (.tuple #[.int .i64 q1, .int .i64 q2, .int .i64 q3])))) :
    Calls Try.prog 6 #[.agg #[.int .i64 T.first, .slice A T.n c], .int .i64 p1, .agg #[.int .i64 U.first, .slice A' U.n c'], .int .i64 p2] w (Ret w (.bool true)) := by
  by_cases hb : T.n ≤ 1048576
  case neg =>
    have HZ1 : ∀ w, Calls Try.prog 36 #[.agg #[.int .i64 T.first, .slice A T.n c], .int .i64 1048576] w (Ret w (.int .i64 (-1))) := fun w => by have h := l_SzT T A c (by omega) 1048576 (by omega) (by omega) w; rwa [if_pos (by omega)] at h
    replace HZ1 := Lib.hid HZ1
    go_enter Try.func6, Try.ntmps6
    go_wp2_with (go_at_call 36; refine (HZ1.out _).mono ?_; rintro e w' ⟨rfl, hb⟩; first | (obtain ⟨x, rfl⟩ := Grow.on x hb) | (obtain ⟨x, rfl⟩ := Grow.mk' hb))
    go_ret
    exact ⟨rfl, (by repeat' (first | (with_reducible exact Up.refl _) | (with_reducible assumption) | (with_reducible refine Up.alloc ?_ _) | (with_reducible refine Up.drew ?_) | (with_reducible refine Up.grow ?_ _) | (with_reducible refine Up.setCell ?_ (by (try simp); (try omega)) _)))⟩
  have HZ1 : ∀ w, Calls Try.prog 36 #[.agg #[.int .i64 T.first, .slice A T.n c], .int .i64 1048576] w (Ret w (.int .i64 (1048576 - T.n))) := fun w => by have h := l_SzT T A c (by omega) 1048576 (by omega) (by omega) w; rwa [if_neg (by omega)] at h
  replace HZ1 := Lib.hid HZ1
  by_cases hbb : T.n + U.n ≤ 1048576
  case neg =>
    have HZ2 : ∀ w, Calls Try.prog 36 #[.agg #[.int .i64 U.first, .slice A' U.n c'], .int .i64 (1048576 - T.n)] w (Ret w (.int .i64 (-1))) := fun w => by have h := l_SzT U A' c' (by omega) (1048576 - T.n) (by omega) (by omega) w; rwa [if_pos (by omega)] at h
    replace HZ2 := Lib.hid HZ2
    go_enter Try.func6, Try.ntmps6
    go_wp2_with (first | (go_at_call 36; ((with_reducible refine (HZ1.out _).mono ?_); rintro e w1 ⟨rfl, hs1⟩; obtain ⟨x, rfl⟩ := Grow.mk' hs1)) | (go_at_call 36; ((with_reducible refine (HZ2.out _).mono ?_); rintro e w1 ⟨rfl, hs2⟩; obtain ⟨y, rfl⟩ := Grow.on x hs2)))
    go_ret
    exact ⟨rfl, (by repeat' (first | (with_reducible exact Up.refl _) | (with_reducible assumption) | (with_reducible refine Up.alloc ?_ _) | (with_reducible refine Up.drew ?_) | (with_reducible refine Up.grow ?_ _) | (with_reducible refine Up.setCell ?_ (by (try simp); (try omega)) _)))⟩
  have HZ2 : ∀ w, Calls Try.prog 36 #[.agg #[.int .i64 U.first, .slice A' U.n c'], .int .i64 (1048576 - T.n)] w (Ret w (.int .i64 (1048576 - T.n - U.n))) := fun w => by have h := l_SzT U A' c' (by omega) (1048576 - T.n) (by omega) (by omega) w; rwa [if_neg (by omega)] at h
  replace HZ2 := Lib.hid HZ2
  have hb2 : U.n ≤ 1048576 := by omega
  have hv : TabAt w T (.agg #[.int .i64 T.first, .slice A T.n c]) := ⟨A, c, rfl, hn, hc, hb, hI⟩
  have hu : TabAt w U (.agg #[.int .i64 U.first, .slice A' U.n c']) := ⟨A', c', rfl, hn', hc', hb2, hJ⟩
  clear hI hJ
  go_enter Try.func6, Try.ntmps6
  go_wp2_with fail
  refine (HZ1.out _).mono ?_; rintro e w1 ⟨rfl, hs1⟩
  have q0 : w1.cell? ⟨w.heap.size + 1, 0, none⟩ = some (.int .i64 U.first) := by
    have h := ((Blk.new (w.alloc (.cells #[.int .i64 T.first, .slice A T.n c] 24)) 24 #[.int .i64 U.first, .slice A' U.n c']).up hs1).cell 0
    rw [World.size_alloc] at h; exact h
  have q1 : w1.cell? ⟨w.heap.size + 1, 1, none⟩ = some (.slice A' U.n c') := by
    have h := ((Blk.new (w.alloc (.cells #[.int .i64 T.first, .slice A T.n c] 24)) 24 #[.int .i64 U.first, .slice A' U.n c']).up hs1).cell 1
    rw [World.size_alloc] at h; exact h
  go_wp2_with fail
  refine (HZ2.out _).mono ?_; rintro e w2 ⟨rfl, hs2⟩
  have hA : Blk w2 w.heap.size 24 _ := (((Blk.new _ _ _).alloc _).up hs1).up hs2
  have hB : Blk w2 (w.heap.size + 1) 24 #[.int .i64 U.first, .slice A' U.n c'] := by
    have h := ((Blk.new (w.alloc (.cells #[.int .i64 T.first, .slice A T.n c] 24)) 24 #[.int .i64 U.first, .slice A' U.n c']).up hs1).up hs2
    simpa only [World.size_alloc] using h
  have hup : Up w w2 := ((Up.alloc (Up.alloc (Up.refl w) _) _).trans hs1).trans hs2
  clear q0 q1 hs1 hs2
  generalize w.heap.size + 1 = B1 at *
  have a0 := hA.cell 0; have a1 := hA.cell 1; have iA := hA.inw
  have b0 := hB.cell 0; have b1 := hB.cell 1; have iB := hB.inw
  go_wp2_with fail
  go_region_held3 (fun w' => w'.cell? ⟨w.heap.size, 0, none⟩ = some (.int .i64 T.first) ∧ w'.cell? ⟨w.heap.size, 1, none⟩ = some (.slice A T.n c) ∧ w'.cell? ⟨B1, 0, none⟩ = some (.int .i64 U.first) ∧ w'.cell? ⟨B1, 1, none⟩ = some (.slice A' U.n c')) ((repeat' apply And.intro) <;> go_simp)
    (first
      | (go_at_call 38; ((with_reducible refine (l_CopyT T hb _ _ (hv.up (hup.trans (by repeat' (first | (with_reducible exact Up.refl _) | (with_reducible assumption) | (with_reducible refine Up.alloc ?_ _) | (with_reducible refine Up.drew ?_) | (with_reducible refine Up.grow ?_ _) | (with_reducible refine Up.setCell ?_ (by (try simp); (try omega)) _)))))).mono ?_); rintro e w3 ⟨v1, rfl, hb3, hT1⟩; have hb3 := (Up.drew (Up.refl w2)).trans hb3; have hA := hA.up hb3; have hB := hB.up hb3; have hup := hup.trans hb3; have a0 := hA.cell 0; have a1 := hA.cell 1; have b0 := hB.cell 0; have b1 := hB.cell 1))
      | (go_at_call 38; ((with_reducible refine (l_CopyT U hb2 _ _ (hu.up hup)).mono ?_); rintro e w4 ⟨v2, rfl, hb4, hU1⟩; have hA := hA.up hb4; have hB := hB.up hb4; have hup := hup.trans hb4; have a0 := hA.cell 0; have a1 := hA.cell 1; have b0 := hB.cell 0; have b1 := hB.cell 1))
      | (go_at_call 45; ((with_reducible refine (HS.out _ _ _ (hT1.tab.up hb4) hU1.tab).mono ?_); rintro e w5 ⟨rfl, hb5⟩; have hA := hA.up hb5; have hB := hB.up hb5; have hup := hup.trans hb5; have a0 := hA.cell 0; have a1 := hA.cell 1; have b0 := hB.cell 0; have b1 := hB.cell 1)))
  have iA := hA.inw; have iB := hB.inw
  clear hT1 hU1 hb3 hb4 hb5
  go_wp2_with fail
  refine (l_CopyT T hb _ _ (hv.up hup)).mono ?_; rintro e w6 ⟨v3, rfl, hb6, hX2⟩
  have hX := hX2
  obtain ⟨_, A2, c2, rfl, _⟩ := hX
  have hA := hA.up hb6; have hB := hB.up hb6; have hup := hup.trans hb6
  have a0 := hA.cell 0; have a1 := hA.cell 1; have iA := hA.inw
  have b0 := hB.cell 0; have b1 := hB.cell 1; have iB := hB.inw
  go_wp2_with fail
  refine (l_CopyT U hb2 _ _ (hu.up (hup.alloc _))).mono ?_; rintro e w7 ⟨v4, rfl, hb7, hY2⟩
  have hY := hY2
  obtain ⟨_, A3, c3, rfl, _⟩ := hY
  have hX : Blk w7 w6.heap.size 28 _ := (Blk.new _ _ _).up hb7
  have hA := (hA.alloc _).up hb7; have hB := (hB.alloc _).up hb7; have hup := (hup.alloc _).trans hb7
  have hX2 := (hX2.up (Up.alloc (Up.refl _) _)).up hb7
  have a0 := hA.cell 0; have a1 := hA.cell 1; have iA := hA.inw
  have b0 := hB.cell 0; have b1 := hB.cell 1; have iB := hB.inw
  have x0 := hX.cell 0; have x1 := hX.cell 1; have iX := hX.inw
  go_wp2_with fail
  refine (HI.out _ _ _ (hX2.tab.up (by repeat' (first | (with_reducible exact Up.refl _) | (with_reducible assumption) | (with_reducible refine Up.alloc ?_ _) | (with_reducible refine Up.drew ?_) | (with_reducible refine Up.grow ?_ _) | (with_reducible refine Up.setCell ?_ (by (try simp); (try omega)) _)))) (hY2.tab.up (by repeat' (first | (with_reducible exact Up.refl _) | (with_reducible assumption) | (with_reducible refine Up.alloc ?_ _) | (with_reducible refine Up.drew ?_) | (with_reducible refine Up.grow ?_ _) | (with_reducible refine Up.setCell ?_ (by (try simp); (try omega)) _))))).mono ?_; rintro e w8 ⟨rfl, hb8⟩
  have hY : Blk w8 w7.heap.size 28 _ := (Blk.new _ _ _).up hb8
  have hA := (hA.alloc _).up hb8; have hB := (hB.alloc _).up hb8; have hX := (hX.alloc _).up hb8; have hup := (hup.alloc _).trans hb8
  have hX2 := (hX2.up (Up.alloc (Up.refl _) _)).up hb8; have hY2 := (hY2.up (Up.alloc (Up.refl _) _)).up hb8
  have a0 := hA.cell 0; have a1 := hA.cell 1; have iA := hA.inw
  have b0 := hB.cell 0; have b1 := hB.cell 1; have iB := hB.inw
  have x0 := hX.cell 0; have x1 := hX.cell 1; have iX := hX.inw
  have y0 := hY.cell 0; have y1 := hY.cell 1; have iY := hY.inw
  clear hb6 hb7 hb8
  go_wp2_with fail
  go_region_held3 (fun w' => w'.cell? ⟨w.heap.size, 0, none⟩ = some (.int .i64 T.first) ∧ w'.cell? ⟨w.heap.size, 1, none⟩ = some (.slice A T.n c) ∧ w'.cell? ⟨w6.heap.size, 0, none⟩ = some (.int .i64 T.first) ∧ w'.cell? ⟨w6.heap.size, 1, none⟩ = some (.slice A2 T.n c2)) ((repeat' apply And.intro) <;> go_simp)
    (first
      | (go_at_call 38; ((with_reducible refine (l_CopyT T hb _ _ (hv.up (hup.trans (by repeat' (first | (with_reducible exact Up.refl _) | (with_reducible assumption) | (with_reducible refine Up.alloc ?_ _) | (with_reducible refine Up.drew ?_) | (with_reducible refine Up.grow ?_ _) | (with_reducible refine Up.setCell ?_ (by (try simp); (try omega)) _)))))).mono ?_); rintro e w9 ⟨v5, rfl, hb9, hT3⟩; have hb9 := (Up.drew (Up.refl w8)).trans hb9; have hA := hA.up hb9; have hB := hB.up hb9; have hX := hX.up hb9; have hY := hY.up hb9; have a0 := hA.cell 0; have a1 := hA.cell 1; have x0 := hX.cell 0; have x1 := hX.cell 1))
      | (go_at_call 40; ((with_reducible refine (l_EqT T _ _ _ (hX2.tab.up hb9) hT3.tab).mono ?_); rintro e w10 ⟨rfl, hb10⟩; have hA := hA.up hb10; have hB := hB.up hb10; have hX := hX.up hb10; have hY := hY.up hb10; have a0 := hA.cell 0; have a1 := hA.cell 1; have x0 := hX.cell 0; have x1 := hX.cell 1)))
  have hd : Up w8 w10 := hb9.trans hb10
  have hup := hup.trans hd; have hY2 := hY2.up hd
  have b0 := hB.cell 0; have b1 := hB.cell 1; have iB := hB.inw
  have y0 := hY.cell 0; have y1 := hY.cell 1; have iY := hY.inw
  clear hd hb9 hb10 hT3 hX2 hX hA a0 a1 x0 x1 iX iA
  go_wp2_with fail
  go_region_held3 (fun w' => w'.cell? ⟨B1, 0, none⟩ = some (.int .i64 U.first) ∧ w'.cell? ⟨B1, 1, none⟩ = some (.slice A' U.n c') ∧ w'.cell? ⟨w7.heap.size, 0, none⟩ = some (.int .i64 U.first) ∧ w'.cell? ⟨w7.heap.size, 1, none⟩ = some (.slice A3 U.n c3)) ((repeat' apply And.intro) <;> go_simp)
    (first
      | (go_at_call 38; ((with_reducible refine (l_CopyT U hb2 _ _ (hu.up (hup.trans (by repeat' (first | (with_reducible exact Up.refl _) | (with_reducible assumption) | (with_reducible refine Up.alloc ?_ _) | (with_reducible refine Up.drew ?_) | (with_reducible refine Up.grow ?_ _) | (with_reducible refine Up.setCell ?_ (by (try simp); (try omega)) _)))))).mono ?_); rintro e w11 ⟨v5, rfl, hb9, hT3⟩; have hb9 := (Up.drew (Up.refl w10)).trans hb9; have hB := hB.up hb9; have hY := hY.up hb9; have b0 := hB.cell 0; have b1 := hB.cell 1; have y0 := hY.cell 0; have y1 := hY.cell 1))
      | (go_at_call 40; ((with_reducible refine (l_EqT U _ _ _ (hY2.tab.up hb9) hT3.tab).mono ?_); rintro e w12 ⟨rfl, hb10⟩; have hB := hB.up hb10; have hY := hY.up hb10; have b0 := hB.cell 0; have b1 := hB.cell 1; have y0 := hY.cell 0; have y1 := hY.cell 1)))
  have hup := hup.trans (hb9.trans hb10)
  go_wp2_with fail
  go_ret
  exact ⟨rfl, hup⟩
end Go.Proofs.Ytklnikaakpebnaa
