/- Laws of functions of one life table that return numbers and a code: the walk. Condition: the slice reads as the table's numbers. -/
import Derived.Test.YtegabpilmjicgaaLawT
import Derived.Test.YtegabpilmjicgaaICols
namespace Go.Proofs.Ytegabpilmjicgaa
open Go.RowKit Pu

set_option maxRecDepth 100000 in
set_option maxHeartbeats 2000000 in
theorem l_LifeAnnuity (T : Tab) (A : Option Addr) (c : Nat) (hn : T.n ≤ c) (hc : c ≤ 9223372036854775807) (r age m : Int) (w : World) (hI : Ints w A T.n T.f) (q1 q2 : Int)
    (HS : Hid (∀ v w, TabAt w T v → Calls Try.prog 48 #[v, .int .i64 r, .int .i64 age, .int .i64 m] w (Ret w (.tuple #[.int .i64 q1, .int .i64 q2])))) (HI : Hid (∀ v w, TabAt w T v → Calls Try.prog 49 #[v, .int .i64 r, .int .i64 age, .int .i64 m] w (Ret w (.tuple #[.int .i64 q1, .int .i64 q2])))) :
    Calls Try.prog 11 #[.agg #[.int .i64 T.first, .slice A T.n c], .int .i64 r, .int .i64 age, .int .i64 m] w (Ret w (.bool true)) := by
  by_cases hb : T.n ≤ 1048576
  case neg =>
    go_enter Try.func11, Try.ntmps11
    go_wp2_with (go_at_call 25; refine (l_SzT T _ _ (by omega) _ (by omega) (by omega) _).mono ?_; rintro e w' ⟨rfl, hb⟩; first | (obtain ⟨x, rfl⟩ := Grow.on x hb) | (obtain ⟨x, rfl⟩ := Grow.mk' hb))
    go_ret
    exact ⟨rfl, (by repeat' (first | (with_reducible exact Up.refl _) | (with_reducible assumption) | (with_reducible refine Up.alloc ?_ _) | (with_reducible refine Up.drew ?_) | (with_reducible refine Up.grow ?_ _) | (with_reducible refine Up.setCell ?_ (by (try simp); (try omega)) _)))⟩
  have hv : TabAt w T (.agg #[.int .i64 T.first, .slice A T.n c]) := ⟨A, c, rfl, hn, hc, hb, hI⟩
  go_enter Try.func11, Try.ntmps11
  go_wp2_with fail
  refine (l_SzT T _ _ (by omega) _ (by omega) (by omega) _).mono ?_; rintro e w1 ⟨rfl, hb1⟩
  have hA : Blk w1 w.heap.size 24 _ := (Blk.new _ _ _).up hb1
  have hup : Up w w1 := (Up.alloc (Up.refl _) _).trans hb1
  have a0 := hA.cell 0; have a1 := hA.cell 1; have iA := hA.inw
  clear hb1
  go_wp2_with fail
  refine (l_CopyT T hb _ _ (hv.up hup)).mono ?_; rintro e w2 ⟨v1, rfl, hb1, hT1⟩
  have hA := hA.up hb1; have hup := hup.trans hb1
  have a0 := hA.cell 0; have a1 := hA.cell 1; have iA := hA.inw
  go_wp2_with fail
  refine (HS.out _ _ hT1.tab).mono ?_; rintro e w3 ⟨rfl, hb2⟩
  have hA := hA.up hb2; have hup := hup.trans hb2
  have a0 := hA.cell 0; have a1 := hA.cell 1; have iA := hA.inw
  clear hT1 hb1
  go_wp2_with fail
  refine (l_CopyT T hb _ _ (hv.up hup)).mono ?_; rintro e w4 ⟨v2, rfl, hb3, hX2⟩
  have hX := hX2
  obtain ⟨_, A2, c2, rfl, hO2⟩ := hX
  have hA := hA.up hb3; have hup := hup.trans hb3
  have a0 := hA.cell 0; have a1 := hA.cell 1; have iA := hA.inw
  clear hO2
  go_wp2_with fail
  refine (HI.out _ _ (hX2.tab.up (by repeat' (first | (with_reducible exact Up.refl _) | (with_reducible assumption) | (with_reducible refine Up.alloc ?_ _) | (with_reducible refine Up.drew ?_) | (with_reducible refine Up.grow ?_ _) | (with_reducible refine Up.setCell ?_ (by (try simp); (try omega)) _))))).mono ?_; rintro e w5 ⟨rfl, hb4⟩
  have hX : Blk w5 w4.heap.size 28 _ := (Blk.new _ _ _).up hb4
  have hA := (hA.alloc _).up hb4; have hup := (hup.alloc _).trans hb4
  have hX2 := (hX2.up (Up.alloc (Up.refl _) _)).up hb4
  have a0 := hA.cell 0; have a1 := hA.cell 1; have iA := hA.inw
  have x0 := hX.cell 0; have x1 := hX.cell 1; have iX := hX.inw
  go_wp2_with fail
  go_region_held3 (fun w' => w'.cell? ⟨w.heap.size, 0, none⟩ = some (.int .i64 T.first) ∧ w'.cell? ⟨w.heap.size, 1, none⟩ = some (.slice A T.n c) ∧ w'.cell? ⟨w4.heap.size, 0, none⟩ = some (.int .i64 T.first) ∧ w'.cell? ⟨w4.heap.size, 1, none⟩ = some (.slice A2 T.n c2)) ((repeat' apply And.intro) <;> go_simp)
    (first
      | (go_at_call 27; refine (l_CopyT T hb _ _ (hv.up (hup.trans (by repeat' (first | (with_reducible exact Up.refl _) | (with_reducible assumption) | (with_reducible refine Up.alloc ?_ _) | (with_reducible refine Up.drew ?_) | (with_reducible refine Up.grow ?_ _) | (with_reducible refine Up.setCell ?_ (by (try simp); (try omega)) _)))))).mono ?_; rintro e w7 ⟨v3, rfl, hb6, hT3⟩; have hA := hA.up ((Up.drew (Up.refl _)).trans hb6); have hX := hX.up ((Up.drew (Up.refl _)).trans hb6); have a0 := hA.cell 0; have a1 := hA.cell 1; have x0 := hX.cell 0; have x1 := hX.cell 1)
      | (go_at_call 30; refine (l_EqT T _ _ _ (hX2.tab.up ((Up.drew (Up.refl _)).trans hb6)) hT3.tab).mono ?_; rintro e w8 ⟨rfl, hb7⟩; have hA := hA.up hb7; have hX := hX.up hb7; have a0 := hA.cell 0; have a1 := hA.cell 1; have x0 := hX.cell 0; have x1 := hX.cell 1))
  have hd : Up w5 w8 := ((Up.drew (Up.refl _)).trans hb6).trans hb7
  have hup := hup.trans hd
  go_wp2_with fail
  go_ret
  exact ⟨rfl, hup⟩
set_option maxRecDepth 100000 in
set_option maxHeartbeats 2000000 in
theorem l_TermAnnuity (T : Tab) (A : Option Addr) (c : Nat) (hn : T.n ≤ c) (hc : c ≤ 9223372036854775807) (r age m n : Int) (w : World) (hI : Ints w A T.n T.f) (q1 q2 : Int)
    (HS : Hid (∀ v w, TabAt w T v → Calls Try.prog 44 #[v, .int .i64 r, .int .i64 age, .int .i64 m, .int .i64 n] w (Ret w (.tuple #[.int .i64 q1, .int .i64 q2])))) (HI : Hid (∀ v w, TabAt w T v → Calls Try.prog 45 #[v, .int .i64 r, .int .i64 age, .int .i64 m, .int .i64 n] w (Ret w (.tuple #[.int .i64 q1, .int .i64 q2])))) :
    Calls Try.prog 9 #[.agg #[.int .i64 T.first, .slice A T.n c], .int .i64 r, .int .i64 age, .int .i64 m, .int .i64 n] w (Ret w (.bool true)) := by
  by_cases hb : T.n ≤ 1048576
  case neg =>
    go_enter Try.func9, Try.ntmps9
    go_wp2_with (go_at_call 25; refine (l_SzT T _ _ (by omega) _ (by omega) (by omega) _).mono ?_; rintro e w' ⟨rfl, hb⟩; first | (obtain ⟨x, rfl⟩ := Grow.on x hb) | (obtain ⟨x, rfl⟩ := Grow.mk' hb))
    go_ret
    exact ⟨rfl, (by repeat' (first | (with_reducible exact Up.refl _) | (with_reducible assumption) | (with_reducible refine Up.alloc ?_ _) | (with_reducible refine Up.drew ?_) | (with_reducible refine Up.grow ?_ _) | (with_reducible refine Up.setCell ?_ (by (try simp); (try omega)) _)))⟩
  have hv : TabAt w T (.agg #[.int .i64 T.first, .slice A T.n c]) := ⟨A, c, rfl, hn, hc, hb, hI⟩
  go_enter Try.func9, Try.ntmps9
  go_wp2_with fail
  refine (l_SzT T _ _ (by omega) _ (by omega) (by omega) _).mono ?_; rintro e w1 ⟨rfl, hb1⟩
  have hA : Blk w1 w.heap.size 24 _ := (Blk.new _ _ _).up hb1
  have hup : Up w w1 := (Up.alloc (Up.refl _) _).trans hb1
  have a0 := hA.cell 0; have a1 := hA.cell 1; have iA := hA.inw
  clear hb1
  go_wp2_with fail
  refine (l_CopyT T hb _ _ (hv.up hup)).mono ?_; rintro e w2 ⟨v1, rfl, hb1, hT1⟩
  have hA := hA.up hb1; have hup := hup.trans hb1
  have a0 := hA.cell 0; have a1 := hA.cell 1; have iA := hA.inw
  go_wp2_with fail
  refine (HS.out _ _ hT1.tab).mono ?_; rintro e w3 ⟨rfl, hb2⟩
  have hA := hA.up hb2; have hup := hup.trans hb2
  have a0 := hA.cell 0; have a1 := hA.cell 1; have iA := hA.inw
  clear hT1 hb1
  go_wp2_with fail
  refine (l_CopyT T hb _ _ (hv.up hup)).mono ?_; rintro e w4 ⟨v2, rfl, hb3, hX2⟩
  have hX := hX2
  obtain ⟨_, A2, c2, rfl, hO2⟩ := hX
  have hA := hA.up hb3; have hup := hup.trans hb3
  have a0 := hA.cell 0; have a1 := hA.cell 1; have iA := hA.inw
  clear hO2
  go_wp2_with fail
  refine (HI.out _ _ (hX2.tab.up (by repeat' (first | (with_reducible exact Up.refl _) | (with_reducible assumption) | (with_reducible refine Up.alloc ?_ _) | (with_reducible refine Up.drew ?_) | (with_reducible refine Up.grow ?_ _) | (with_reducible refine Up.setCell ?_ (by (try simp); (try omega)) _))))).mono ?_; rintro e w5 ⟨rfl, hb4⟩
  have hX : Blk w5 w4.heap.size 28 _ := (Blk.new _ _ _).up hb4
  have hA := (hA.alloc _).up hb4; have hup := (hup.alloc _).trans hb4
  have hX2 := (hX2.up (Up.alloc (Up.refl _) _)).up hb4
  have a0 := hA.cell 0; have a1 := hA.cell 1; have iA := hA.inw
  have x0 := hX.cell 0; have x1 := hX.cell 1; have iX := hX.inw
  go_wp2_with fail
  go_region_held3 (fun w' => w'.cell? ⟨w.heap.size, 0, none⟩ = some (.int .i64 T.first) ∧ w'.cell? ⟨w.heap.size, 1, none⟩ = some (.slice A T.n c) ∧ w'.cell? ⟨w4.heap.size, 0, none⟩ = some (.int .i64 T.first) ∧ w'.cell? ⟨w4.heap.size, 1, none⟩ = some (.slice A2 T.n c2)) ((repeat' apply And.intro) <;> go_simp)
    (first
      | (go_at_call 27; refine (l_CopyT T hb _ _ (hv.up (hup.trans (by repeat' (first | (with_reducible exact Up.refl _) | (with_reducible assumption) | (with_reducible refine Up.alloc ?_ _) | (with_reducible refine Up.drew ?_) | (with_reducible refine Up.grow ?_ _) | (with_reducible refine Up.setCell ?_ (by (try simp); (try omega)) _)))))).mono ?_; rintro e w7 ⟨v3, rfl, hb6, hT3⟩; have hA := hA.up ((Up.drew (Up.refl _)).trans hb6); have hX := hX.up ((Up.drew (Up.refl _)).trans hb6); have a0 := hA.cell 0; have a1 := hA.cell 1; have x0 := hX.cell 0; have x1 := hX.cell 1)
      | (go_at_call 30; refine (l_EqT T _ _ _ (hX2.tab.up ((Up.drew (Up.refl _)).trans hb6)) hT3.tab).mono ?_; rintro e w8 ⟨rfl, hb7⟩; have hA := hA.up hb7; have hX := hX.up hb7; have a0 := hA.cell 0; have a1 := hA.cell 1; have x0 := hX.cell 0; have x1 := hX.cell 1))
  have hd : Up w5 w8 := ((Up.drew (Up.refl _)).trans hb6).trans hb7
  have hup := hup.trans hd
  go_wp2_with fail
  go_ret
  exact ⟨rfl, hup⟩
set_option maxRecDepth 100000 in
set_option maxHeartbeats 2000000 in
theorem l_LateAnnuity (T : Tab) (A : Option Addr) (c : Nat) (hn : T.n ≤ c) (hc : c ≤ 9223372036854775807) (r age m n : Int) (w : World) (hI : Ints w A T.n T.f) (q1 q2 : Int)
    (HS : Hid (∀ v w, TabAt w T v → Calls Try.prog 46 #[v, .int .i64 r, .int .i64 age, .int .i64 m, .int .i64 n] w (Ret w (.tuple #[.int .i64 q1, .int .i64 q2])))) (HI : Hid (∀ v w, TabAt w T v → Calls Try.prog 47 #[v, .int .i64 r, .int .i64 age, .int .i64 m, .int .i64 n] w (Ret w (.tuple #[.int .i64 q1, .int .i64 q2])))) :
    Calls Try.prog 10 #[.agg #[.int .i64 T.first, .slice A T.n c], .int .i64 r, .int .i64 age, .int .i64 m, .int .i64 n] w (Ret w (.bool true)) := by
  by_cases hb : T.n ≤ 1048576
  case neg =>
    go_enter Try.func10, Try.ntmps10
    go_wp2_with (go_at_call 25; refine (l_SzT T _ _ (by omega) _ (by omega) (by omega) _).mono ?_; rintro e w' ⟨rfl, hb⟩; first | (obtain ⟨x, rfl⟩ := Grow.on x hb) | (obtain ⟨x, rfl⟩ := Grow.mk' hb))
    go_ret
    exact ⟨rfl, (by repeat' (first | (with_reducible exact Up.refl _) | (with_reducible assumption) | (with_reducible refine Up.alloc ?_ _) | (with_reducible refine Up.drew ?_) | (with_reducible refine Up.grow ?_ _) | (with_reducible refine Up.setCell ?_ (by (try simp); (try omega)) _)))⟩
  have hv : TabAt w T (.agg #[.int .i64 T.first, .slice A T.n c]) := ⟨A, c, rfl, hn, hc, hb, hI⟩
  go_enter Try.func10, Try.ntmps10
  go_wp2_with fail
  refine (l_SzT T _ _ (by omega) _ (by omega) (by omega) _).mono ?_; rintro e w1 ⟨rfl, hb1⟩
  have hA : Blk w1 w.heap.size 24 _ := (Blk.new _ _ _).up hb1
  have hup : Up w w1 := (Up.alloc (Up.refl _) _).trans hb1
  have a0 := hA.cell 0; have a1 := hA.cell 1; have iA := hA.inw
  clear hb1
  go_wp2_with fail
  refine (l_CopyT T hb _ _ (hv.up hup)).mono ?_; rintro e w2 ⟨v1, rfl, hb1, hT1⟩
  have hA := hA.up hb1; have hup := hup.trans hb1
  have a0 := hA.cell 0; have a1 := hA.cell 1; have iA := hA.inw
  go_wp2_with fail
  refine (HS.out _ _ hT1.tab).mono ?_; rintro e w3 ⟨rfl, hb2⟩
  have hA := hA.up hb2; have hup := hup.trans hb2
  have a0 := hA.cell 0; have a1 := hA.cell 1; have iA := hA.inw
  clear hT1 hb1
  go_wp2_with fail
  refine (l_CopyT T hb _ _ (hv.up hup)).mono ?_; rintro e w4 ⟨v2, rfl, hb3, hX2⟩
  have hX := hX2
  obtain ⟨_, A2, c2, rfl, hO2⟩ := hX
  have hA := hA.up hb3; have hup := hup.trans hb3
  have a0 := hA.cell 0; have a1 := hA.cell 1; have iA := hA.inw
  clear hO2
  go_wp2_with fail
  refine (HI.out _ _ (hX2.tab.up (by repeat' (first | (with_reducible exact Up.refl _) | (with_reducible assumption) | (with_reducible refine Up.alloc ?_ _) | (with_reducible refine Up.drew ?_) | (with_reducible refine Up.grow ?_ _) | (with_reducible refine Up.setCell ?_ (by (try simp); (try omega)) _))))).mono ?_; rintro e w5 ⟨rfl, hb4⟩
  have hX : Blk w5 w4.heap.size 28 _ := (Blk.new _ _ _).up hb4
  have hA := (hA.alloc _).up hb4; have hup := (hup.alloc _).trans hb4
  have hX2 := (hX2.up (Up.alloc (Up.refl _) _)).up hb4
  have a0 := hA.cell 0; have a1 := hA.cell 1; have iA := hA.inw
  have x0 := hX.cell 0; have x1 := hX.cell 1; have iX := hX.inw
  go_wp2_with fail
  go_region_held3 (fun w' => w'.cell? ⟨w.heap.size, 0, none⟩ = some (.int .i64 T.first) ∧ w'.cell? ⟨w.heap.size, 1, none⟩ = some (.slice A T.n c) ∧ w'.cell? ⟨w4.heap.size, 0, none⟩ = some (.int .i64 T.first) ∧ w'.cell? ⟨w4.heap.size, 1, none⟩ = some (.slice A2 T.n c2)) ((repeat' apply And.intro) <;> go_simp)
    (first
      | (go_at_call 27; refine (l_CopyT T hb _ _ (hv.up (hup.trans (by repeat' (first | (with_reducible exact Up.refl _) | (with_reducible assumption) | (with_reducible refine Up.alloc ?_ _) | (with_reducible refine Up.drew ?_) | (with_reducible refine Up.grow ?_ _) | (with_reducible refine Up.setCell ?_ (by (try simp); (try omega)) _)))))).mono ?_; rintro e w7 ⟨v3, rfl, hb6, hT3⟩; have hA := hA.up ((Up.drew (Up.refl _)).trans hb6); have hX := hX.up ((Up.drew (Up.refl _)).trans hb6); have a0 := hA.cell 0; have a1 := hA.cell 1; have x0 := hX.cell 0; have x1 := hX.cell 1)
      | (go_at_call 30; refine (l_EqT T _ _ _ (hX2.tab.up ((Up.drew (Up.refl _)).trans hb6)) hT3.tab).mono ?_; rintro e w8 ⟨rfl, hb7⟩; have hA := hA.up hb7; have hX := hX.up hb7; have a0 := hA.cell 0; have a1 := hA.cell 1; have x0 := hX.cell 0; have x1 := hX.cell 1))
  have hd : Up w5 w8 := ((Up.drew (Up.refl _)).trans hb6).trans hb7
  have hup := hup.trans hd
  go_wp2_with fail
  go_ret
  exact ⟨rfl, hup⟩
set_option maxRecDepth 100000 in
set_option maxHeartbeats 2000000 in
theorem l_SureAnnuity (T : Tab) (A : Option Addr) (c : Nat) (hn : T.n ≤ c) (hc : c ≤ 9223372036854775807) (r age m n : Int) (w : World) (hI : Ints w A T.n T.f) (q1 q2 : Int)
    (HS : Hid (∀ v w, TabAt w T v → Calls Try.prog 52 #[v, .int .i64 r, .int .i64 age, .int .i64 m, .int .i64 n] w (Ret w (.tuple #[.int .i64 q1, .int .i64 q2])))) (HI : Hid (∀ v w, TabAt w T v → Calls Try.prog 53 #[v, .int .i64 r, .int .i64 age, .int .i64 m, .int .i64 n] w (Ret w (.tuple #[.int .i64 q1, .int .i64 q2])))) :
    Calls Try.prog 13 #[.agg #[.int .i64 T.first, .slice A T.n c], .int .i64 r, .int .i64 age, .int .i64 m, .int .i64 n] w (Ret w (.bool true)) := by
  by_cases hb : T.n ≤ 1048576
  case neg =>
    go_enter Try.func13, Try.ntmps13
    go_wp2_with (go_at_call 25; refine (l_SzT T _ _ (by omega) _ (by omega) (by omega) _).mono ?_; rintro e w' ⟨rfl, hb⟩; first | (obtain ⟨x, rfl⟩ := Grow.on x hb) | (obtain ⟨x, rfl⟩ := Grow.mk' hb))
    go_ret
    exact ⟨rfl, (by repeat' (first | (with_reducible exact Up.refl _) | (with_reducible assumption) | (with_reducible refine Up.alloc ?_ _) | (with_reducible refine Up.drew ?_) | (with_reducible refine Up.grow ?_ _) | (with_reducible refine Up.setCell ?_ (by (try simp); (try omega)) _)))⟩
  have hv : TabAt w T (.agg #[.int .i64 T.first, .slice A T.n c]) := ⟨A, c, rfl, hn, hc, hb, hI⟩
  go_enter Try.func13, Try.ntmps13
  go_wp2_with fail
  refine (l_SzT T _ _ (by omega) _ (by omega) (by omega) _).mono ?_; rintro e w1 ⟨rfl, hb1⟩
  have hA : Blk w1 w.heap.size 24 _ := (Blk.new _ _ _).up hb1
  have hup : Up w w1 := (Up.alloc (Up.refl _) _).trans hb1
  have a0 := hA.cell 0; have a1 := hA.cell 1; have iA := hA.inw
  clear hb1
  go_wp2_with fail
  refine (l_CopyT T hb _ _ (hv.up hup)).mono ?_; rintro e w2 ⟨v1, rfl, hb1, hT1⟩
  have hA := hA.up hb1; have hup := hup.trans hb1
  have a0 := hA.cell 0; have a1 := hA.cell 1; have iA := hA.inw
  go_wp2_with fail
  refine (HS.out _ _ hT1.tab).mono ?_; rintro e w3 ⟨rfl, hb2⟩
  have hA := hA.up hb2; have hup := hup.trans hb2
  have a0 := hA.cell 0; have a1 := hA.cell 1; have iA := hA.inw
  clear hT1 hb1
  go_wp2_with fail
  refine (l_CopyT T hb _ _ (hv.up hup)).mono ?_; rintro e w4 ⟨v2, rfl, hb3, hX2⟩
  have hX := hX2
  obtain ⟨_, A2, c2, rfl, hO2⟩ := hX
  have hA := hA.up hb3; have hup := hup.trans hb3
  have a0 := hA.cell 0; have a1 := hA.cell 1; have iA := hA.inw
  clear hO2
  go_wp2_with fail
  refine (HI.out _ _ (hX2.tab.up (by repeat' (first | (with_reducible exact Up.refl _) | (with_reducible assumption) | (with_reducible refine Up.alloc ?_ _) | (with_reducible refine Up.drew ?_) | (with_reducible refine Up.grow ?_ _) | (with_reducible refine Up.setCell ?_ (by (try simp); (try omega)) _))))).mono ?_; rintro e w5 ⟨rfl, hb4⟩
  have hX : Blk w5 w4.heap.size 28 _ := (Blk.new _ _ _).up hb4
  have hA := (hA.alloc _).up hb4; have hup := (hup.alloc _).trans hb4
  have hX2 := (hX2.up (Up.alloc (Up.refl _) _)).up hb4
  have a0 := hA.cell 0; have a1 := hA.cell 1; have iA := hA.inw
  have x0 := hX.cell 0; have x1 := hX.cell 1; have iX := hX.inw
  go_wp2_with fail
  go_region_held3 (fun w' => w'.cell? ⟨w.heap.size, 0, none⟩ = some (.int .i64 T.first) ∧ w'.cell? ⟨w.heap.size, 1, none⟩ = some (.slice A T.n c) ∧ w'.cell? ⟨w4.heap.size, 0, none⟩ = some (.int .i64 T.first) ∧ w'.cell? ⟨w4.heap.size, 1, none⟩ = some (.slice A2 T.n c2)) ((repeat' apply And.intro) <;> go_simp)
    (first
      | (go_at_call 27; refine (l_CopyT T hb _ _ (hv.up (hup.trans (by repeat' (first | (with_reducible exact Up.refl _) | (with_reducible assumption) | (with_reducible refine Up.alloc ?_ _) | (with_reducible refine Up.drew ?_) | (with_reducible refine Up.grow ?_ _) | (with_reducible refine Up.setCell ?_ (by (try simp); (try omega)) _)))))).mono ?_; rintro e w7 ⟨v3, rfl, hb6, hT3⟩; have hA := hA.up ((Up.drew (Up.refl _)).trans hb6); have hX := hX.up ((Up.drew (Up.refl _)).trans hb6); have a0 := hA.cell 0; have a1 := hA.cell 1; have x0 := hX.cell 0; have x1 := hX.cell 1)
      | (go_at_call 30; refine (l_EqT T _ _ _ (hX2.tab.up ((Up.drew (Up.refl _)).trans hb6)) hT3.tab).mono ?_; rintro e w8 ⟨rfl, hb7⟩; have hA := hA.up hb7; have hX := hX.up hb7; have a0 := hA.cell 0; have a1 := hA.cell 1; have x0 := hX.cell 0; have x1 := hX.cell 1))
  have hd : Up w5 w8 := ((Up.drew (Up.refl _)).trans hb6).trans hb7
  have hup := hup.trans hd
  go_wp2_with fail
  go_ret
  exact ⟨rfl, hup⟩
set_option maxRecDepth 100000 in
set_option maxHeartbeats 2000000 in
theorem l_AmountFor (T : Tab) (A : Option Addr) (c : Nat) (hn : T.n ≤ c) (hc : c ≤ 9223372036854775807) (r age m : Int) (w : World) (hI : Ints w A T.n T.f) (q1 q2 : Int)
    (HS : Hid (∀ v w, TabAt w T v → Calls Try.prog 42 #[v, .int .i64 r, .int .i64 age, .int .i64 m] w (Ret w (.tuple #[.int .i64 q1, .int .i64 q2])))) (HI : Hid (∀ v w, TabAt w T v → Calls Try.prog 43 #[v, .int .i64 r, .int .i64 age, .int .i64 m] w (Ret w (.tuple #[.int .i64 q1, .int .i64 q2])))) :
    Calls Try.prog 8 #[.agg #[.int .i64 T.first, .slice A T.n c], .int .i64 r, .int .i64 age, .int .i64 m] w (Ret w (.bool true)) := by
  by_cases hb : T.n ≤ 1048576
  case neg =>
    go_enter Try.func8, Try.ntmps8
    go_wp2_with (go_at_call 25; refine (l_SzT T _ _ (by omega) _ (by omega) (by omega) _).mono ?_; rintro e w' ⟨rfl, hb⟩; first | (obtain ⟨x, rfl⟩ := Grow.on x hb) | (obtain ⟨x, rfl⟩ := Grow.mk' hb))
    go_ret
    exact ⟨rfl, (by repeat' (first | (with_reducible exact Up.refl _) | (with_reducible assumption) | (with_reducible refine Up.alloc ?_ _) | (with_reducible refine Up.drew ?_) | (with_reducible refine Up.grow ?_ _) | (with_reducible refine Up.setCell ?_ (by (try simp); (try omega)) _)))⟩
  have hv : TabAt w T (.agg #[.int .i64 T.first, .slice A T.n c]) := ⟨A, c, rfl, hn, hc, hb, hI⟩
  go_enter Try.func8, Try.ntmps8
  go_wp2_with fail
  refine (l_SzT T _ _ (by omega) _ (by omega) (by omega) _).mono ?_; rintro e w1 ⟨rfl, hb1⟩
  have hA : Blk w1 w.heap.size 24 _ := (Blk.new _ _ _).up hb1
  have hup : Up w w1 := (Up.alloc (Up.refl _) _).trans hb1
  have a0 := hA.cell 0; have a1 := hA.cell 1; have iA := hA.inw
  clear hb1
  go_wp2_with fail
  refine (l_CopyT T hb _ _ (hv.up hup)).mono ?_; rintro e w2 ⟨v1, rfl, hb1, hT1⟩
  have hA := hA.up hb1; have hup := hup.trans hb1
  have a0 := hA.cell 0; have a1 := hA.cell 1; have iA := hA.inw
  go_wp2_with fail
  refine (HS.out _ _ hT1.tab).mono ?_; rintro e w3 ⟨rfl, hb2⟩
  have hA := hA.up hb2; have hup := hup.trans hb2
  have a0 := hA.cell 0; have a1 := hA.cell 1; have iA := hA.inw
  clear hT1 hb1
  go_wp2_with fail
  refine (l_CopyT T hb _ _ (hv.up hup)).mono ?_; rintro e w4 ⟨v2, rfl, hb3, hX2⟩
  have hX := hX2
  obtain ⟨_, A2, c2, rfl, hO2⟩ := hX
  have hA := hA.up hb3; have hup := hup.trans hb3
  have a0 := hA.cell 0; have a1 := hA.cell 1; have iA := hA.inw
  clear hO2
  go_wp2_with fail
  refine (HI.out _ _ (hX2.tab.up (by repeat' (first | (with_reducible exact Up.refl _) | (with_reducible assumption) | (with_reducible refine Up.alloc ?_ _) | (with_reducible refine Up.drew ?_) | (with_reducible refine Up.grow ?_ _) | (with_reducible refine Up.setCell ?_ (by (try simp); (try omega)) _))))).mono ?_; rintro e w5 ⟨rfl, hb4⟩
  have hX : Blk w5 w4.heap.size 28 _ := (Blk.new _ _ _).up hb4
  have hA := (hA.alloc _).up hb4; have hup := (hup.alloc _).trans hb4
  have hX2 := (hX2.up (Up.alloc (Up.refl _) _)).up hb4
  have a0 := hA.cell 0; have a1 := hA.cell 1; have iA := hA.inw
  have x0 := hX.cell 0; have x1 := hX.cell 1; have iX := hX.inw
  go_wp2_with fail
  go_region_held3 (fun w' => w'.cell? ⟨w.heap.size, 0, none⟩ = some (.int .i64 T.first) ∧ w'.cell? ⟨w.heap.size, 1, none⟩ = some (.slice A T.n c) ∧ w'.cell? ⟨w4.heap.size, 0, none⟩ = some (.int .i64 T.first) ∧ w'.cell? ⟨w4.heap.size, 1, none⟩ = some (.slice A2 T.n c2)) ((repeat' apply And.intro) <;> go_simp)
    (first
      | (go_at_call 27; refine (l_CopyT T hb _ _ (hv.up (hup.trans (by repeat' (first | (with_reducible exact Up.refl _) | (with_reducible assumption) | (with_reducible refine Up.alloc ?_ _) | (with_reducible refine Up.drew ?_) | (with_reducible refine Up.grow ?_ _) | (with_reducible refine Up.setCell ?_ (by (try simp); (try omega)) _)))))).mono ?_; rintro e w7 ⟨v3, rfl, hb6, hT3⟩; have hA := hA.up ((Up.drew (Up.refl _)).trans hb6); have hX := hX.up ((Up.drew (Up.refl _)).trans hb6); have a0 := hA.cell 0; have a1 := hA.cell 1; have x0 := hX.cell 0; have x1 := hX.cell 1)
      | (go_at_call 30; refine (l_EqT T _ _ _ (hX2.tab.up ((Up.drew (Up.refl _)).trans hb6)) hT3.tab).mono ?_; rintro e w8 ⟨rfl, hb7⟩; have hA := hA.up hb7; have hX := hX.up hb7; have a0 := hA.cell 0; have a1 := hA.cell 1; have x0 := hX.cell 0; have x1 := hX.cell 1))
  have hd : Up w5 w8 := ((Up.drew (Up.refl _)).trans hb6).trans hb7
  have hup := hup.trans hd
  go_wp2_with fail
  go_ret
  exact ⟨rfl, hup⟩
set_option maxRecDepth 100000 in
set_option maxHeartbeats 2000000 in
theorem l_AssurancePrice (T : Tab) (A : Option Addr) (c : Nat) (hn : T.n ≤ c) (hc : c ≤ 9223372036854775807) (r kind age n m : Int) (w : World) (hI : Ints w A T.n T.f) (q1 q2 : Int)
    (HS : Hid (∀ v w, TabAt w T v → Calls Try.prog 56 #[v, .int .i64 r, .int .i64 kind, .int .i64 age, .int .i64 n, .int .i64 m] w (Ret w (.tuple #[.int .i64 q1, .int .i64 q2])))) (HI : Hid (∀ v w, TabAt w T v → Calls Try.prog 57 #[v, .int .i64 r, .int .i64 kind, .int .i64 age, .int .i64 n, .int .i64 m] w (Ret w (.tuple #[.int .i64 q1, .int .i64 q2])))) :
    Calls Try.prog 15 #[.agg #[.int .i64 T.first, .slice A T.n c], .int .i64 r, .int .i64 kind, .int .i64 age, .int .i64 n, .int .i64 m] w (Ret w (.bool true)) := by
  by_cases hb : T.n ≤ 1048576
  case neg =>
    go_enter Try.func15, Try.ntmps15
    go_wp2_with (go_at_call 25; refine (l_SzT T _ _ (by omega) _ (by omega) (by omega) _).mono ?_; rintro e w' ⟨rfl, hb⟩; first | (obtain ⟨x, rfl⟩ := Grow.on x hb) | (obtain ⟨x, rfl⟩ := Grow.mk' hb))
    go_ret
    exact ⟨rfl, (by repeat' (first | (with_reducible exact Up.refl _) | (with_reducible assumption) | (with_reducible refine Up.alloc ?_ _) | (with_reducible refine Up.drew ?_) | (with_reducible refine Up.grow ?_ _) | (with_reducible refine Up.setCell ?_ (by (try simp); (try omega)) _)))⟩
  have hv : TabAt w T (.agg #[.int .i64 T.first, .slice A T.n c]) := ⟨A, c, rfl, hn, hc, hb, hI⟩
  go_enter Try.func15, Try.ntmps15
  go_wp2_with fail
  refine (l_SzT T _ _ (by omega) _ (by omega) (by omega) _).mono ?_; rintro e w1 ⟨rfl, hb1⟩
  have hA : Blk w1 w.heap.size 24 _ := (Blk.new _ _ _).up hb1
  have hup : Up w w1 := (Up.alloc (Up.refl _) _).trans hb1
  have a0 := hA.cell 0; have a1 := hA.cell 1; have iA := hA.inw
  clear hb1
  go_wp2_with fail
  refine (l_CopyT T hb _ _ (hv.up hup)).mono ?_; rintro e w2 ⟨v1, rfl, hb1, hT1⟩
  have hA := hA.up hb1; have hup := hup.trans hb1
  have a0 := hA.cell 0; have a1 := hA.cell 1; have iA := hA.inw
  go_wp2_with fail
  refine (HS.out _ _ hT1.tab).mono ?_; rintro e w3 ⟨rfl, hb2⟩
  have hA := hA.up hb2; have hup := hup.trans hb2
  have a0 := hA.cell 0; have a1 := hA.cell 1; have iA := hA.inw
  clear hT1 hb1
  go_wp2_with fail
  refine (l_CopyT T hb _ _ (hv.up hup)).mono ?_; rintro e w4 ⟨v2, rfl, hb3, hX2⟩
  have hX := hX2
  obtain ⟨_, A2, c2, rfl, hO2⟩ := hX
  have hA := hA.up hb3; have hup := hup.trans hb3
  have a0 := hA.cell 0; have a1 := hA.cell 1; have iA := hA.inw
  clear hO2
  go_wp2_with fail
  refine (HI.out _ _ (hX2.tab.up (by repeat' (first | (with_reducible exact Up.refl _) | (with_reducible assumption) | (with_reducible refine Up.alloc ?_ _) | (with_reducible refine Up.drew ?_) | (with_reducible refine Up.grow ?_ _) | (with_reducible refine Up.setCell ?_ (by (try simp); (try omega)) _))))).mono ?_; rintro e w5 ⟨rfl, hb4⟩
  have hX : Blk w5 w4.heap.size 28 _ := (Blk.new _ _ _).up hb4
  have hA := (hA.alloc _).up hb4; have hup := (hup.alloc _).trans hb4
  have hX2 := (hX2.up (Up.alloc (Up.refl _) _)).up hb4
  have a0 := hA.cell 0; have a1 := hA.cell 1; have iA := hA.inw
  have x0 := hX.cell 0; have x1 := hX.cell 1; have iX := hX.inw
  go_wp2_with fail
  go_region_held3 (fun w' => w'.cell? ⟨w.heap.size, 0, none⟩ = some (.int .i64 T.first) ∧ w'.cell? ⟨w.heap.size, 1, none⟩ = some (.slice A T.n c) ∧ w'.cell? ⟨w4.heap.size, 0, none⟩ = some (.int .i64 T.first) ∧ w'.cell? ⟨w4.heap.size, 1, none⟩ = some (.slice A2 T.n c2)) ((repeat' apply And.intro) <;> go_simp)
    (first
      | (go_at_call 27; refine (l_CopyT T hb _ _ (hv.up (hup.trans (by repeat' (first | (with_reducible exact Up.refl _) | (with_reducible assumption) | (with_reducible refine Up.alloc ?_ _) | (with_reducible refine Up.drew ?_) | (with_reducible refine Up.grow ?_ _) | (with_reducible refine Up.setCell ?_ (by (try simp); (try omega)) _)))))).mono ?_; rintro e w7 ⟨v3, rfl, hb6, hT3⟩; have hA := hA.up ((Up.drew (Up.refl _)).trans hb6); have hX := hX.up ((Up.drew (Up.refl _)).trans hb6); have a0 := hA.cell 0; have a1 := hA.cell 1; have x0 := hX.cell 0; have x1 := hX.cell 1)
      | (go_at_call 30; refine (l_EqT T _ _ _ (hX2.tab.up ((Up.drew (Up.refl _)).trans hb6)) hT3.tab).mono ?_; rintro e w8 ⟨rfl, hb7⟩; have hA := hA.up hb7; have hX := hX.up hb7; have a0 := hA.cell 0; have a1 := hA.cell 1; have x0 := hX.cell 0; have x1 := hX.cell 1))
  have hd : Up w5 w8 := ((Up.drew (Up.refl _)).trans hb6).trans hb7
  have hup := hup.trans hd
  go_wp2_with fail
  go_ret
  exact ⟨rfl, hup⟩
set_option maxRecDepth 100000 in
set_option maxHeartbeats 2000000 in
theorem l_LevelPremium (T : Tab) (A : Option Addr) (c : Nat) (hn : T.n ≤ c) (hc : c ≤ 9223372036854775807) (r kind age n m : Int) (w : World) (hI : Ints w A T.n T.f) (q1 q2 : Int)
    (HS : Hid (∀ v w, TabAt w T v → Calls Try.prog 66 #[v, .int .i64 r, .int .i64 kind, .int .i64 age, .int .i64 n, .int .i64 m] w (Ret w (.tuple #[.int .i64 q1, .int .i64 q2])))) (HI : Hid (∀ v w, TabAt w T v → Calls Try.prog 67 #[v, .int .i64 r, .int .i64 kind, .int .i64 age, .int .i64 n, .int .i64 m] w (Ret w (.tuple #[.int .i64 q1, .int .i64 q2])))) :
    Calls Try.prog 20 #[.agg #[.int .i64 T.first, .slice A T.n c], .int .i64 r, .int .i64 kind, .int .i64 age, .int .i64 n, .int .i64 m] w (Ret w (.bool true)) := by
  by_cases hb : T.n ≤ 1048576
  case neg =>
    go_enter Try.func20, Try.ntmps20
    go_wp2_with (go_at_call 25; refine (l_SzT T _ _ (by omega) _ (by omega) (by omega) _).mono ?_; rintro e w' ⟨rfl, hb⟩; first | (obtain ⟨x, rfl⟩ := Grow.on x hb) | (obtain ⟨x, rfl⟩ := Grow.mk' hb))
    go_ret
    exact ⟨rfl, (by repeat' (first | (with_reducible exact Up.refl _) | (with_reducible assumption) | (with_reducible refine Up.alloc ?_ _) | (with_reducible refine Up.drew ?_) | (with_reducible refine Up.grow ?_ _) | (with_reducible refine Up.setCell ?_ (by (try simp); (try omega)) _)))⟩
  have hv : TabAt w T (.agg #[.int .i64 T.first, .slice A T.n c]) := ⟨A, c, rfl, hn, hc, hb, hI⟩
  go_enter Try.func20, Try.ntmps20
  go_wp2_with fail
  refine (l_SzT T _ _ (by omega) _ (by omega) (by omega) _).mono ?_; rintro e w1 ⟨rfl, hb1⟩
  have hA : Blk w1 w.heap.size 24 _ := (Blk.new _ _ _).up hb1
  have hup : Up w w1 := (Up.alloc (Up.refl _) _).trans hb1
  have a0 := hA.cell 0; have a1 := hA.cell 1; have iA := hA.inw
  clear hb1
  go_wp2_with fail
  refine (l_CopyT T hb _ _ (hv.up hup)).mono ?_; rintro e w2 ⟨v1, rfl, hb1, hT1⟩
  have hA := hA.up hb1; have hup := hup.trans hb1
  have a0 := hA.cell 0; have a1 := hA.cell 1; have iA := hA.inw
  go_wp2_with fail
  refine (HS.out _ _ hT1.tab).mono ?_; rintro e w3 ⟨rfl, hb2⟩
  have hA := hA.up hb2; have hup := hup.trans hb2
  have a0 := hA.cell 0; have a1 := hA.cell 1; have iA := hA.inw
  clear hT1 hb1
  go_wp2_with fail
  refine (l_CopyT T hb _ _ (hv.up hup)).mono ?_; rintro e w4 ⟨v2, rfl, hb3, hX2⟩
  have hX := hX2
  obtain ⟨_, A2, c2, rfl, hO2⟩ := hX
  have hA := hA.up hb3; have hup := hup.trans hb3
  have a0 := hA.cell 0; have a1 := hA.cell 1; have iA := hA.inw
  clear hO2
  go_wp2_with fail
  refine (HI.out _ _ (hX2.tab.up (by repeat' (first | (with_reducible exact Up.refl _) | (with_reducible assumption) | (with_reducible refine Up.alloc ?_ _) | (with_reducible refine Up.drew ?_) | (with_reducible refine Up.grow ?_ _) | (with_reducible refine Up.setCell ?_ (by (try simp); (try omega)) _))))).mono ?_; rintro e w5 ⟨rfl, hb4⟩
  have hX : Blk w5 w4.heap.size 28 _ := (Blk.new _ _ _).up hb4
  have hA := (hA.alloc _).up hb4; have hup := (hup.alloc _).trans hb4
  have hX2 := (hX2.up (Up.alloc (Up.refl _) _)).up hb4
  have a0 := hA.cell 0; have a1 := hA.cell 1; have iA := hA.inw
  have x0 := hX.cell 0; have x1 := hX.cell 1; have iX := hX.inw
  go_wp2_with fail
  go_region_held3 (fun w' => w'.cell? ⟨w.heap.size, 0, none⟩ = some (.int .i64 T.first) ∧ w'.cell? ⟨w.heap.size, 1, none⟩ = some (.slice A T.n c) ∧ w'.cell? ⟨w4.heap.size, 0, none⟩ = some (.int .i64 T.first) ∧ w'.cell? ⟨w4.heap.size, 1, none⟩ = some (.slice A2 T.n c2)) ((repeat' apply And.intro) <;> go_simp)
    (first
      | (go_at_call 27; refine (l_CopyT T hb _ _ (hv.up (hup.trans (by repeat' (first | (with_reducible exact Up.refl _) | (with_reducible assumption) | (with_reducible refine Up.alloc ?_ _) | (with_reducible refine Up.drew ?_) | (with_reducible refine Up.grow ?_ _) | (with_reducible refine Up.setCell ?_ (by (try simp); (try omega)) _)))))).mono ?_; rintro e w7 ⟨v3, rfl, hb6, hT3⟩; have hA := hA.up ((Up.drew (Up.refl _)).trans hb6); have hX := hX.up ((Up.drew (Up.refl _)).trans hb6); have a0 := hA.cell 0; have a1 := hA.cell 1; have x0 := hX.cell 0; have x1 := hX.cell 1)
      | (go_at_call 30; refine (l_EqT T _ _ _ (hX2.tab.up ((Up.drew (Up.refl _)).trans hb6)) hT3.tab).mono ?_; rintro e w8 ⟨rfl, hb7⟩; have hA := hA.up hb7; have hX := hX.up hb7; have a0 := hA.cell 0; have a1 := hA.cell 1; have x0 := hX.cell 0; have x1 := hX.cell 1))
  have hd : Up w5 w8 := ((Up.drew (Up.refl _)).trans hb6).trans hb7
  have hup := hup.trans hd
  go_wp2_with fail
  go_ret
  exact ⟨rfl, hup⟩
set_option maxRecDepth 100000 in
set_option maxHeartbeats 2000000 in
theorem l_SumFor (T : Tab) (A : Option Addr) (c : Nat) (hn : T.n ≤ c) (hc : c ≤ 9223372036854775807) (r kind age n m : Int) (w : World) (hI : Ints w A T.n T.f) (q1 q2 : Int)
    (HS : Hid (∀ v w, TabAt w T v → Calls Try.prog 54 #[v, .int .i64 r, .int .i64 kind, .int .i64 age, .int .i64 n, .int .i64 m] w (Ret w (.tuple #[.int .i64 q1, .int .i64 q2])))) (HI : Hid (∀ v w, TabAt w T v → Calls Try.prog 55 #[v, .int .i64 r, .int .i64 kind, .int .i64 age, .int .i64 n, .int .i64 m] w (Ret w (.tuple #[.int .i64 q1, .int .i64 q2])))) :
    Calls Try.prog 14 #[.agg #[.int .i64 T.first, .slice A T.n c], .int .i64 r, .int .i64 kind, .int .i64 age, .int .i64 n, .int .i64 m] w (Ret w (.bool true)) := by
  by_cases hb : T.n ≤ 1048576
  case neg =>
    go_enter Try.func14, Try.ntmps14
    go_wp2_with (go_at_call 25; refine (l_SzT T _ _ (by omega) _ (by omega) (by omega) _).mono ?_; rintro e w' ⟨rfl, hb⟩; first | (obtain ⟨x, rfl⟩ := Grow.on x hb) | (obtain ⟨x, rfl⟩ := Grow.mk' hb))
    go_ret
    exact ⟨rfl, (by repeat' (first | (with_reducible exact Up.refl _) | (with_reducible assumption) | (with_reducible refine Up.alloc ?_ _) | (with_reducible refine Up.drew ?_) | (with_reducible refine Up.grow ?_ _) | (with_reducible refine Up.setCell ?_ (by (try simp); (try omega)) _)))⟩
  have hv : TabAt w T (.agg #[.int .i64 T.first, .slice A T.n c]) := ⟨A, c, rfl, hn, hc, hb, hI⟩
  go_enter Try.func14, Try.ntmps14
  go_wp2_with fail
  refine (l_SzT T _ _ (by omega) _ (by omega) (by omega) _).mono ?_; rintro e w1 ⟨rfl, hb1⟩
  have hA : Blk w1 w.heap.size 24 _ := (Blk.new _ _ _).up hb1
  have hup : Up w w1 := (Up.alloc (Up.refl _) _).trans hb1
  have a0 := hA.cell 0; have a1 := hA.cell 1; have iA := hA.inw
  clear hb1
  go_wp2_with fail
  refine (l_CopyT T hb _ _ (hv.up hup)).mono ?_; rintro e w2 ⟨v1, rfl, hb1, hT1⟩
  have hA := hA.up hb1; have hup := hup.trans hb1
  have a0 := hA.cell 0; have a1 := hA.cell 1; have iA := hA.inw
  go_wp2_with fail
  refine (HS.out _ _ hT1.tab).mono ?_; rintro e w3 ⟨rfl, hb2⟩
  have hA := hA.up hb2; have hup := hup.trans hb2
  have a0 := hA.cell 0; have a1 := hA.cell 1; have iA := hA.inw
  clear hT1 hb1
  go_wp2_with fail
  refine (l_CopyT T hb _ _ (hv.up hup)).mono ?_; rintro e w4 ⟨v2, rfl, hb3, hX2⟩
  have hX := hX2
  obtain ⟨_, A2, c2, rfl, hO2⟩ := hX
  have hA := hA.up hb3; have hup := hup.trans hb3
  have a0 := hA.cell 0; have a1 := hA.cell 1; have iA := hA.inw
  clear hO2
  go_wp2_with fail
  refine (HI.out _ _ (hX2.tab.up (by repeat' (first | (with_reducible exact Up.refl _) | (with_reducible assumption) | (with_reducible refine Up.alloc ?_ _) | (with_reducible refine Up.drew ?_) | (with_reducible refine Up.grow ?_ _) | (with_reducible refine Up.setCell ?_ (by (try simp); (try omega)) _))))).mono ?_; rintro e w5 ⟨rfl, hb4⟩
  have hX : Blk w5 w4.heap.size 28 _ := (Blk.new _ _ _).up hb4
  have hA := (hA.alloc _).up hb4; have hup := (hup.alloc _).trans hb4
  have hX2 := (hX2.up (Up.alloc (Up.refl _) _)).up hb4
  have a0 := hA.cell 0; have a1 := hA.cell 1; have iA := hA.inw
  have x0 := hX.cell 0; have x1 := hX.cell 1; have iX := hX.inw
  go_wp2_with fail
  go_region_held3 (fun w' => w'.cell? ⟨w.heap.size, 0, none⟩ = some (.int .i64 T.first) ∧ w'.cell? ⟨w.heap.size, 1, none⟩ = some (.slice A T.n c) ∧ w'.cell? ⟨w4.heap.size, 0, none⟩ = some (.int .i64 T.first) ∧ w'.cell? ⟨w4.heap.size, 1, none⟩ = some (.slice A2 T.n c2)) ((repeat' apply And.intro) <;> go_simp)
    (first
      | (go_at_call 27; refine (l_CopyT T hb _ _ (hv.up (hup.trans (by repeat' (first | (with_reducible exact Up.refl _) | (with_reducible assumption) | (with_reducible refine Up.alloc ?_ _) | (with_reducible refine Up.drew ?_) | (with_reducible refine Up.grow ?_ _) | (with_reducible refine Up.setCell ?_ (by (try simp); (try omega)) _)))))).mono ?_; rintro e w7 ⟨v3, rfl, hb6, hT3⟩; have hA := hA.up ((Up.drew (Up.refl _)).trans hb6); have hX := hX.up ((Up.drew (Up.refl _)).trans hb6); have a0 := hA.cell 0; have a1 := hA.cell 1; have x0 := hX.cell 0; have x1 := hX.cell 1)
      | (go_at_call 30; refine (l_EqT T _ _ _ (hX2.tab.up ((Up.drew (Up.refl _)).trans hb6)) hT3.tab).mono ?_; rintro e w8 ⟨rfl, hb7⟩; have hA := hA.up hb7; have hX := hX.up hb7; have a0 := hA.cell 0; have a1 := hA.cell 1; have x0 := hX.cell 0; have x1 := hX.cell 1))
  have hd : Up w5 w8 := ((Up.drew (Up.refl _)).trans hb6).trans hb7
  have hup := hup.trans hd
  go_wp2_with fail
  go_ret
  exact ⟨rfl, hup⟩
set_option maxRecDepth 100000 in
set_option maxHeartbeats 2000000 in
theorem l_AssuranceNumber (T : Tab) (A : Option Addr) (c : Nat) (hn : T.n ≤ c) (hc : c ≤ 9223372036854775807) (r kind age n : Int) (w : World) (hI : Ints w A T.n T.f) (q1 q2 q3 : Int)
    (HS : Hid (∀ v w, TabAt w T v → Calls Try.prog 40 #[v, .int .i64 r, .int .i64 kind, .int .i64 age, .int .i64 n] w (Ret w (.tuple #[.int .i64 q1, .int .i64 q2, .int .i64 q3])))) (HI : Hid (∀ v w, TabAt w T v → Calls Try.prog 41 #[v, .int .i64 r, .int .i64 kind, .int .i64 age, .int .i64 n] w (Ret w (.tuple #[.int .i64 q1, .int .i64 q2, .int .i64 q3])))) :
    Calls Try.prog 7 #[.agg #[.int .i64 T.first, .slice A T.n c], .int .i64 r, .int .i64 kind, .int .i64 age, .int .i64 n] w (Ret w (.bool true)) := by
  by_cases hb : T.n ≤ 1048576
  case neg =>
    go_enter Try.func7, Try.ntmps7
    go_wp2_with (go_at_call 25; refine (l_SzT T _ _ (by omega) _ (by omega) (by omega) _).mono ?_; rintro e w' ⟨rfl, hb⟩; first | (obtain ⟨x, rfl⟩ := Grow.on x hb) | (obtain ⟨x, rfl⟩ := Grow.mk' hb))
    go_ret
    exact ⟨rfl, (by repeat' (first | (with_reducible exact Up.refl _) | (with_reducible assumption) | (with_reducible refine Up.alloc ?_ _) | (with_reducible refine Up.drew ?_) | (with_reducible refine Up.grow ?_ _) | (with_reducible refine Up.setCell ?_ (by (try simp); (try omega)) _)))⟩
  have hv : TabAt w T (.agg #[.int .i64 T.first, .slice A T.n c]) := ⟨A, c, rfl, hn, hc, hb, hI⟩
  go_enter Try.func7, Try.ntmps7
  go_wp2_with fail
  refine (l_SzT T _ _ (by omega) _ (by omega) (by omega) _).mono ?_; rintro e w1 ⟨rfl, hb1⟩
  have hA : Blk w1 w.heap.size 24 _ := (Blk.new _ _ _).up hb1
  have hup : Up w w1 := (Up.alloc (Up.refl _) _).trans hb1
  have a0 := hA.cell 0; have a1 := hA.cell 1; have iA := hA.inw
  clear hb1
  go_wp2_with fail
  refine (l_CopyT T hb _ _ (hv.up hup)).mono ?_; rintro e w2 ⟨v1, rfl, hb1, hT1⟩
  have hA := hA.up hb1; have hup := hup.trans hb1
  have a0 := hA.cell 0; have a1 := hA.cell 1; have iA := hA.inw
  go_wp2_with fail
  refine (HS.out _ _ hT1.tab).mono ?_; rintro e w3 ⟨rfl, hb2⟩
  have hA := hA.up hb2; have hup := hup.trans hb2
  have a0 := hA.cell 0; have a1 := hA.cell 1; have iA := hA.inw
  clear hT1 hb1
  go_wp2_with fail
  refine (l_CopyT T hb _ _ (hv.up hup)).mono ?_; rintro e w4 ⟨v2, rfl, hb3, hX2⟩
  have hX := hX2
  obtain ⟨_, A2, c2, rfl, hO2⟩ := hX
  have hA := hA.up hb3; have hup := hup.trans hb3
  have a0 := hA.cell 0; have a1 := hA.cell 1; have iA := hA.inw
  clear hO2
  go_wp2_with fail
  refine (HI.out _ _ (hX2.tab.up (by repeat' (first | (with_reducible exact Up.refl _) | (with_reducible assumption) | (with_reducible refine Up.alloc ?_ _) | (with_reducible refine Up.drew ?_) | (with_reducible refine Up.grow ?_ _) | (with_reducible refine Up.setCell ?_ (by (try simp); (try omega)) _))))).mono ?_; rintro e w5 ⟨rfl, hb4⟩
  have hX : Blk w5 w4.heap.size 28 _ := (Blk.new _ _ _).up hb4
  have hA := (hA.alloc _).up hb4; have hup := (hup.alloc _).trans hb4
  have hX2 := (hX2.up (Up.alloc (Up.refl _) _)).up hb4
  have a0 := hA.cell 0; have a1 := hA.cell 1; have iA := hA.inw
  have x0 := hX.cell 0; have x1 := hX.cell 1; have iX := hX.inw
  go_wp2_with fail
  go_region_held3 (fun w' => w'.cell? ⟨w.heap.size, 0, none⟩ = some (.int .i64 T.first) ∧ w'.cell? ⟨w.heap.size, 1, none⟩ = some (.slice A T.n c) ∧ w'.cell? ⟨w4.heap.size, 0, none⟩ = some (.int .i64 T.first) ∧ w'.cell? ⟨w4.heap.size, 1, none⟩ = some (.slice A2 T.n c2)) ((repeat' apply And.intro) <;> go_simp)
    (first
      | (go_at_call 27; refine (l_CopyT T hb _ _ (hv.up (hup.trans (by repeat' (first | (with_reducible exact Up.refl _) | (with_reducible assumption) | (with_reducible refine Up.alloc ?_ _) | (with_reducible refine Up.drew ?_) | (with_reducible refine Up.grow ?_ _) | (with_reducible refine Up.setCell ?_ (by (try simp); (try omega)) _)))))).mono ?_; rintro e w7 ⟨v3, rfl, hb6, hT3⟩; have hA := hA.up ((Up.drew (Up.refl _)).trans hb6); have hX := hX.up ((Up.drew (Up.refl _)).trans hb6); have a0 := hA.cell 0; have a1 := hA.cell 1; have x0 := hX.cell 0; have x1 := hX.cell 1)
      | (go_at_call 30; refine (l_EqT T _ _ _ (hX2.tab.up ((Up.drew (Up.refl _)).trans hb6)) hT3.tab).mono ?_; rintro e w8 ⟨rfl, hb7⟩; have hA := hA.up hb7; have hX := hX.up hb7; have a0 := hA.cell 0; have a1 := hA.cell 1; have x0 := hX.cell 0; have x1 := hX.cell 1))
  have hd : Up w5 w8 := ((Up.drew (Up.refl _)).trans hb6).trans hb7
  have hup := hup.trans hd
  go_wp2_with fail
  go_ret
  exact ⟨rfl, hup⟩
set_option maxRecDepth 100000 in
set_option maxHeartbeats 2000000 in
theorem l_TermPart (T : Tab) (A : Option Addr) (c : Nat) (hn : T.n ≤ c) (hc : c ≤ 9223372036854775807) (r age n m : Int) (w : World) (hI : Ints w A T.n T.f) (q1 q2 q3 : Int)
    (HS : Hid (∀ v w, TabAt w T v → Calls Try.prog 62 #[v, .int .i64 r, .int .i64 age, .int .i64 n, .int .i64 m] w (Ret w (.tuple #[.int .i64 q1, .int .i64 q2, .int .i64 q3])))) (HI : Hid (∀ v w, TabAt w T v → Calls Try.prog 63 #[v, .int .i64 r, .int .i64 age, .int .i64 n, .int .i64 m] w (Ret w (.tuple #[.int .i64 q1, .int .i64 q2, .int .i64 q3])))) :
    Calls Try.prog 18 #[.agg #[.int .i64 T.first, .slice A T.n c], .int .i64 r, .int .i64 age, .int .i64 n, .int .i64 m] w (Ret w (.bool true)) := by
  by_cases hb : T.n ≤ 1048576
  case neg =>
    go_enter Try.func18, Try.ntmps18
    go_wp2_with (go_at_call 25; refine (l_SzT T _ _ (by omega) _ (by omega) (by omega) _).mono ?_; rintro e w' ⟨rfl, hb⟩; first | (obtain ⟨x, rfl⟩ := Grow.on x hb) | (obtain ⟨x, rfl⟩ := Grow.mk' hb))
    go_ret
    exact ⟨rfl, (by repeat' (first | (with_reducible exact Up.refl _) | (with_reducible assumption) | (with_reducible refine Up.alloc ?_ _) | (with_reducible refine Up.drew ?_) | (with_reducible refine Up.grow ?_ _) | (with_reducible refine Up.setCell ?_ (by (try simp); (try omega)) _)))⟩
  have hv : TabAt w T (.agg #[.int .i64 T.first, .slice A T.n c]) := ⟨A, c, rfl, hn, hc, hb, hI⟩
  go_enter Try.func18, Try.ntmps18
  go_wp2_with fail
  refine (l_SzT T _ _ (by omega) _ (by omega) (by omega) _).mono ?_; rintro e w1 ⟨rfl, hb1⟩
  have hA : Blk w1 w.heap.size 24 _ := (Blk.new _ _ _).up hb1
  have hup : Up w w1 := (Up.alloc (Up.refl _) _).trans hb1
  have a0 := hA.cell 0; have a1 := hA.cell 1; have iA := hA.inw
  clear hb1
  go_wp2_with fail
  refine (l_CopyT T hb _ _ (hv.up hup)).mono ?_; rintro e w2 ⟨v1, rfl, hb1, hT1⟩
  have hA := hA.up hb1; have hup := hup.trans hb1
  have a0 := hA.cell 0; have a1 := hA.cell 1; have iA := hA.inw
  go_wp2_with fail
  refine (HS.out _ _ hT1.tab).mono ?_; rintro e w3 ⟨rfl, hb2⟩
  have hA := hA.up hb2; have hup := hup.trans hb2
  have a0 := hA.cell 0; have a1 := hA.cell 1; have iA := hA.inw
  clear hT1 hb1
  go_wp2_with fail
  refine (l_CopyT T hb _ _ (hv.up hup)).mono ?_; rintro e w4 ⟨v2, rfl, hb3, hX2⟩
  have hX := hX2
  obtain ⟨_, A2, c2, rfl, hO2⟩ := hX
  have hA := hA.up hb3; have hup := hup.trans hb3
  have a0 := hA.cell 0; have a1 := hA.cell 1; have iA := hA.inw
  clear hO2
  go_wp2_with fail
  refine (HI.out _ _ (hX2.tab.up (by repeat' (first | (with_reducible exact Up.refl _) | (with_reducible assumption) | (with_reducible refine Up.alloc ?_ _) | (with_reducible refine Up.drew ?_) | (with_reducible refine Up.grow ?_ _) | (with_reducible refine Up.setCell ?_ (by (try simp); (try omega)) _))))).mono ?_; rintro e w5 ⟨rfl, hb4⟩
  have hX : Blk w5 w4.heap.size 28 _ := (Blk.new _ _ _).up hb4
  have hA := (hA.alloc _).up hb4; have hup := (hup.alloc _).trans hb4
  have hX2 := (hX2.up (Up.alloc (Up.refl _) _)).up hb4
  have a0 := hA.cell 0; have a1 := hA.cell 1; have iA := hA.inw
  have x0 := hX.cell 0; have x1 := hX.cell 1; have iX := hX.inw
  go_wp2_with fail
  go_region_held3 (fun w' => w'.cell? ⟨w.heap.size, 0, none⟩ = some (.int .i64 T.first) ∧ w'.cell? ⟨w.heap.size, 1, none⟩ = some (.slice A T.n c) ∧ w'.cell? ⟨w4.heap.size, 0, none⟩ = some (.int .i64 T.first) ∧ w'.cell? ⟨w4.heap.size, 1, none⟩ = some (.slice A2 T.n c2)) ((repeat' apply And.intro) <;> go_simp)
    (first
      | (go_at_call 27; refine (l_CopyT T hb _ _ (hv.up (hup.trans (by repeat' (first | (with_reducible exact Up.refl _) | (with_reducible assumption) | (with_reducible refine Up.alloc ?_ _) | (with_reducible refine Up.drew ?_) | (with_reducible refine Up.grow ?_ _) | (with_reducible refine Up.setCell ?_ (by (try simp); (try omega)) _)))))).mono ?_; rintro e w7 ⟨v3, rfl, hb6, hT3⟩; have hA := hA.up ((Up.drew (Up.refl _)).trans hb6); have hX := hX.up ((Up.drew (Up.refl _)).trans hb6); have a0 := hA.cell 0; have a1 := hA.cell 1; have x0 := hX.cell 0; have x1 := hX.cell 1)
      | (go_at_call 30; refine (l_EqT T _ _ _ (hX2.tab.up ((Up.drew (Up.refl _)).trans hb6)) hT3.tab).mono ?_; rintro e w8 ⟨rfl, hb7⟩; have hA := hA.up hb7; have hX := hX.up hb7; have a0 := hA.cell 0; have a1 := hA.cell 1; have x0 := hX.cell 0; have x1 := hX.cell 1))
  have hd : Up w5 w8 := ((Up.drew (Up.refl _)).trans hb6).trans hb7
  have hup := hup.trans hd
  go_wp2_with fail
  go_ret
  exact ⟨rfl, hup⟩
end Go.Proofs.Ytegabpilmjicgaa
