/- Laws of functions of a basis and a policy that return numbers and a code: the walk. Condition: the slice reads as the table's numbers. -/
import Derived.Test.YtklnikaakpebnaaLawBH
import Derived.Test.YtklnikaakpebnaaICols
namespace Go.Proofs.Ytklnikaakpebnaa
open Go.RowKit Pu
set_option linter.unusedVariables false

set_option maxRecDepth 100000 in
set_option maxHeartbeats 4000000 in
theorem l_SumForPremium (T : Tab) (r : Int) (A : Option Addr) (c : Nat) (hn : T.n ≤ c) (hc : c ≤ 9223372036854775807) (p0 p1 p2 p3 p4 p5 : Int) (w : World) (hI : Ints w A T.n T.f) (q1 q2 : Int)
    (HS : Hid (∀ v w, BasAt w T r v → Calls Try.prog 64 #[v, .agg #[.int .i64 (p0), .int .i64 (p1), .int .i64 (p2), .int .i64 (p3), .int .i64 (p4)], .int .i64 p5] w (Ret w (.tuple #[.int .i64 q1, .int .i64 q2])))) (HI : Hid (∀ v w, BasAt w T r v → Calls Try.prog 65 #[v, .agg #[.int .i64 (p0), .int .i64 (p1), .int .i64 (p2), .int .i64 (p3), .int .i64 (p4)], .int .i64 p5] w (Ret w (.tuple #[.int .i64 q1, .int .i64 q2])))) :
    Calls Try.prog 12 #[.agg #[.int .i64 T.first, .slice A T.n c, .int .i64 r], .agg #[.int .i64 (p0), .int .i64 (p1), .int .i64 (p2), .int .i64 (p3), .int .i64 (p4)], .int .i64 p5] w (Ret w (.bool true)) := by
  by_cases hb : T.n ≤ 1048576
  case neg =>
    have HZ1 : ∀ w, Calls Try.prog 47 #[.agg #[.int .i64 T.first, .slice A T.n c, .int .i64 r], .int .i64 1048576] w (Ret w (.int .i64 (-1))) := fun w => by have h := l_SzB T r A c (by omega) 1048576 (by omega) (by omega) w; rwa [if_pos (by omega)] at h
    replace HZ1 := Lib.hid HZ1
    go_enter Try.func12, Try.ntmps12
    go_wp2_with (go_at_call 47; refine (HZ1.out _).mono ?_; rintro e w' ⟨rfl, hb⟩; first | (obtain ⟨x, rfl⟩ := Grow.on x hb) | (obtain ⟨x, rfl⟩ := Grow.mk' hb))
    go_ret
    exact ⟨rfl, (by repeat' (first | (with_reducible exact Up.refl _) | (with_reducible assumption) | (with_reducible refine Up.alloc ?_ _) | (with_reducible refine Up.drew ?_) | (with_reducible refine Up.grow ?_ _) | (with_reducible refine Up.setCell ?_ (by (try simp); (try omega)) _)))⟩
  have HZ1 : ∀ w, Calls Try.prog 47 #[.agg #[.int .i64 T.first, .slice A T.n c, .int .i64 r], .int .i64 1048576] w (Ret w (.int .i64 (1048576 - T.n))) := fun w => by have h := l_SzB T r A c (by omega) 1048576 (by omega) (by omega) w; rwa [if_neg (by omega)] at h
  replace HZ1 := Lib.hid HZ1
  have hv : BasAt w T r (.agg #[.int .i64 T.first, .slice A T.n c, .int .i64 r]) := ⟨A, c, rfl, hn, hc, hb, hI⟩
  clear hI
  go_enter Try.func12, Try.ntmps12
  go_wp2_with fail
  refine (HZ1.out _).mono ?_; rintro e w1 ⟨rfl, hs1⟩
  have hA : Blk w1 w.heap.size 36 _ := ((Blk.new _ _ _).alloc _).up hs1
  have hP : Blk w1 (w.heap.size + 1) 38 #[.int .i64 p0, .int .i64 p1, .int .i64 p2, .int .i64 p3, .int .i64 p4] := by
    have h := (Blk.new (w.alloc (.cells #[.int .i64 T.first, .slice A T.n c, .int .i64 r] 36)) 38 #[.int .i64 p0, .int .i64 p1, .int .i64 p2, .int .i64 p3, .int .i64 p4]).up hs1
    simpa only [World.size_alloc] using h
  have hup : Up w w1 := (Up.alloc (Up.alloc (Up.refl _) _) _).trans hs1
  clear hs1
  generalize w.heap.size + 1 = B1 at *
  have a0 := hA.cell 0; have a1 := hA.cell 1; have a2 := hA.cell 2; have iA := hA.inw
  have b0 := hP.cell 0; have b1 := hP.cell 1; have b2 := hP.cell 2; have b3 := hP.cell 3; have b4 := hP.cell 4; have iP := hP.inw
  go_wp2_with fail
  go_region_held3 (fun w' => w'.cell? ⟨w.heap.size, 0, none⟩ = some (.int .i64 T.first) ∧ w'.cell? ⟨w.heap.size, 1, none⟩ = some (.slice A T.n c) ∧ w'.cell? ⟨w.heap.size, 2, none⟩ = some (.int .i64 r) ∧ w'.cell? ⟨B1, 0, none⟩ = some (.int .i64 p0) ∧ w'.cell? ⟨B1, 1, none⟩ = some (.int .i64 p1) ∧ w'.cell? ⟨B1, 2, none⟩ = some (.int .i64 p2) ∧ w'.cell? ⟨B1, 3, none⟩ = some (.int .i64 p3) ∧ w'.cell? ⟨B1, 4, none⟩ = some (.int .i64 p4)) ((repeat' apply And.intro) <;> go_simp)
    (first
      | (go_at_call 49; ((with_reducible refine (l_CopyB T r hb _ _ (hv.up (hup.trans (by repeat' (first | (with_reducible exact Up.refl _) | (with_reducible assumption) | (with_reducible refine Up.alloc ?_ _) | (with_reducible refine Up.drew ?_) | (with_reducible refine Up.grow ?_ _) | (with_reducible refine Up.setCell ?_ (by (try simp); (try omega)) _)))))).mono ?_); rintro e w3 ⟨v1, rfl, hb3, hT1⟩; have hb3 := (Up.drew (Up.refl w1)).trans hb3; have hA := hA.up hb3; have hP := hP.up hb3; have hup := hup.trans hb3; have a0 := hA.cell 0; have a1 := hA.cell 1; have a2 := hA.cell 2; have b0 := hP.cell 0; have b1 := hP.cell 1; have b2 := hP.cell 2; have b3 := hP.cell 3; have b4 := hP.cell 4))
      | (go_at_call 50; ((with_reducible refine (l_CopyPol _ _ _ _ _ _).mono ?_); rintro e w4 ⟨rfl, hb4⟩; have hA := hA.up hb4; have hP := hP.up hb4; have hup := hup.trans hb4; have a0 := hA.cell 0; have a1 := hA.cell 1; have a2 := hA.cell 2; have b0 := hP.cell 0; have b1 := hP.cell 1; have b2 := hP.cell 2; have b3 := hP.cell 3; have b4 := hP.cell 4))
      | (go_at_call 64; ((with_reducible refine (HS.out _ _ (hT1.up hb4).bas).mono ?_); rintro e w5 ⟨rfl, hb5⟩; have hA := hA.up hb5; have hP := hP.up hb5; have hup := hup.trans hb5; have a0 := hA.cell 0; have a1 := hA.cell 1; have a2 := hA.cell 2; have b0 := hP.cell 0; have b1 := hP.cell 1; have b2 := hP.cell 2; have b3 := hP.cell 3; have b4 := hP.cell 4)))
  have iA := hA.inw; have iP := hP.inw
  clear hT1 hb3 hb4 hb5
  go_wp2_with fail
  refine (l_CopyB T r hb _ _ (hv.up hup)).mono ?_; rintro e w6 ⟨v3, rfl, hb6, hX2⟩
  have hX := hX2
  obtain ⟨_, A2, c2, rfl, _⟩ := hX
  have hA := hA.up hb6; have hP := hP.up hb6; have hup := hup.trans hb6
  have a0 := hA.cell 0; have a1 := hA.cell 1; have a2 := hA.cell 2; have iA := hA.inw
  have b0 := hP.cell 0; have b1 := hP.cell 1; have b2 := hP.cell 2; have b3 := hP.cell 3; have b4 := hP.cell 4; have iP := hP.inw
  clear hb6
  go_wp2_with fail
  have hX := Blk.new w6 42 #[.int .i64 T.first, .slice A2 T.n c2, .int .i64 r]
  have hA := hA.alloc (.cells #[.int .i64 T.first, .slice A2 T.n c2, .int .i64 r] 42)
  have hP := hP.alloc (.cells #[.int .i64 T.first, .slice A2 T.n c2, .int .i64 r] 42)
  have hup := hup.alloc (.cells #[.int .i64 T.first, .slice A2 T.n c2, .int .i64 r] 42)
  have hX2 := hX2.up (Up.alloc (Up.refl w6) (.cells #[.int .i64 T.first, .slice A2 T.n c2, .int .i64 r] 42))
  clear a0 a1 a2 b0 b1 b2 b3 b4 iA iP
  generalize w6.alloc (.cells #[.int .i64 T.first, .slice A2 T.n c2, .int .i64 r] 42) = w7 at *
  generalize w6.heap.size = B6 at *
  have a0 := hA.cell 0; have a1 := hA.cell 1; have a2 := hA.cell 2; have iA := hA.inw
  have b0 := hP.cell 0; have b1 := hP.cell 1; have b2 := hP.cell 2; have b3 := hP.cell 3; have b4 := hP.cell 4; have iP := hP.inw
  have x0 := hX.cell 0; have x1 := hX.cell 1; have x2 := hX.cell 2; have iX := hX.inw
  go_region_held3 (fun w' => w'.cell? ⟨B6, 0, none⟩ = some (.int .i64 T.first) ∧ w'.cell? ⟨B6, 1, none⟩ = some (.slice A2 T.n c2) ∧ w'.cell? ⟨B6, 2, none⟩ = some (.int .i64 r) ∧ w'.cell? ⟨B1, 0, none⟩ = some (.int .i64 p0) ∧ w'.cell? ⟨B1, 1, none⟩ = some (.int .i64 p1) ∧ w'.cell? ⟨B1, 2, none⟩ = some (.int .i64 p2) ∧ w'.cell? ⟨B1, 3, none⟩ = some (.int .i64 p3) ∧ w'.cell? ⟨B1, 4, none⟩ = some (.int .i64 p4)) ((repeat' apply And.intro) <;> go_simp)
    (first
      | (go_at_call 50; ((with_reducible refine (l_CopyPol _ _ _ _ _ _).mono ?_); rintro e w8 ⟨rfl, hb8⟩; have hb8 := (Up.drew (Up.refl w7)).trans hb8; have hA := hA.up hb8; have hP := hP.up hb8; have hX := hX.up hb8; have hup := hup.trans hb8; have hX2 := hX2.up hb8; have x0 := hX.cell 0; have x1 := hX.cell 1; have x2 := hX.cell 2; have b0 := hP.cell 0; have b1 := hP.cell 1; have b2 := hP.cell 2; have b3 := hP.cell 3; have b4 := hP.cell 4))
      | (go_at_call 65; ((with_reducible refine (HI.out _ _ hX2.bas).mono ?_); rintro e w9 ⟨rfl, hb9⟩; have hA := hA.up hb9; have hP := hP.up hb9; have hX := hX.up hb9; have hup := hup.trans hb9; have hX2 := hX2.up hb9; have x0 := hX.cell 0; have x1 := hX.cell 1; have x2 := hX.cell 2; have b0 := hP.cell 0; have b1 := hP.cell 1; have b2 := hP.cell 2; have b3 := hP.cell 3; have b4 := hP.cell 4)))
  clear hb8 hb9 b0 b1 b2 b3 b4 iP hP
  have a0 := hA.cell 0; have a1 := hA.cell 1; have a2 := hA.cell 2; have iA := hA.inw; have iX := hX.inw
  go_wp2_with fail
  go_region_held3 (fun w' => w'.cell? ⟨B6, 0, none⟩ = some (.int .i64 T.first) ∧ w'.cell? ⟨B6, 1, none⟩ = some (.slice A2 T.n c2) ∧ w'.cell? ⟨B6, 2, none⟩ = some (.int .i64 r) ∧ w'.cell? ⟨w.heap.size, 0, none⟩ = some (.int .i64 T.first) ∧ w'.cell? ⟨w.heap.size, 1, none⟩ = some (.slice A T.n c) ∧ w'.cell? ⟨w.heap.size, 2, none⟩ = some (.int .i64 r)) ((repeat' apply And.intro) <;> go_simp)
    (first
      | (go_at_call 49; ((with_reducible refine (l_CopyB T r hb _ _ (hv.up (hup.trans (by repeat' (first | (with_reducible exact Up.refl _) | (with_reducible assumption) | (with_reducible refine Up.alloc ?_ _) | (with_reducible refine Up.drew ?_) | (with_reducible refine Up.grow ?_ _) | (with_reducible refine Up.setCell ?_ (by (try simp); (try omega)) _)))))).mono ?_); rintro e w10 ⟨v5, rfl, hb10, hT3⟩; have hb10 := (Up.drew (Up.refl w9)).trans hb10; have hA := hA.up hb10; have hX := hX.up hb10; have hup := hup.trans hb10; have hX2 := hX2.up hb10; have a0 := hA.cell 0; have a1 := hA.cell 1; have a2 := hA.cell 2; have x0 := hX.cell 0; have x1 := hX.cell 1; have x2 := hX.cell 2))
      | (go_at_call 52; ((with_reducible refine (l_EqB T r _ _ _ hX2.bas hT3.bas).mono ?_); rintro e w11 ⟨rfl, hb11⟩; have hA := hA.up hb11; have hX := hX.up hb11; have hup := hup.trans hb11; have a0 := hA.cell 0; have a1 := hA.cell 1; have a2 := hA.cell 2; have x0 := hX.cell 0; have x1 := hX.cell 1; have x2 := hX.cell 2)))
  go_wp2_with fail
  go_ret
  exact ⟨rfl, hup⟩
set_option maxRecDepth 100000 in
set_option maxHeartbeats 4000000 in
theorem l_RiskAt (T : Tab) (r : Int) (A : Option Addr) (c : Nat) (hn : T.n ≤ c) (hc : c ≤ 9223372036854775807) (p0 p1 p2 p3 p4 p5 : Int) (w : World) (hI : Ints w A T.n T.f) (q1 q2 : Int)
    (HS : Hid (∀ v w, BasAt w T r v → Calls Try.prog 93 #[v, .agg #[.int .i64 (p0), .int .i64 (p1), .int .i64 (p2), .int .i64 (p3), .int .i64 (p4)], .int .i64 p5] w (Ret w (.tuple #[.int .i64 q1, .int .i64 q2])))) (HI : Hid (∀ v w, BasAt w T r v → Calls Try.prog 94 #[v, .agg #[.int .i64 (p0), .int .i64 (p1), .int .i64 (p2), .int .i64 (p3), .int .i64 (p4)], .int .i64 p5] w (Ret w (.tuple #[.int .i64 q1, .int .i64 q2])))) :
    Calls Try.prog 23 #[.agg #[.int .i64 T.first, .slice A T.n c, .int .i64 r], .agg #[.int .i64 (p0), .int .i64 (p1), .int .i64 (p2), .int .i64 (p3), .int .i64 (p4)], .int .i64 p5] w (Ret w (.bool true)) := by
  by_cases hb : T.n ≤ 1048576
  case neg =>
    have HZ1 : ∀ w, Calls Try.prog 47 #[.agg #[.int .i64 T.first, .slice A T.n c, .int .i64 r], .int .i64 1048576] w (Ret w (.int .i64 (-1))) := fun w => by have h := l_SzB T r A c (by omega) 1048576 (by omega) (by omega) w; rwa [if_pos (by omega)] at h
    replace HZ1 := Lib.hid HZ1
    go_enter Try.func23, Try.ntmps23
    go_wp2_with (go_at_call 47; refine (HZ1.out _).mono ?_; rintro e w' ⟨rfl, hb⟩; first | (obtain ⟨x, rfl⟩ := Grow.on x hb) | (obtain ⟨x, rfl⟩ := Grow.mk' hb))
    go_ret
    exact ⟨rfl, (by repeat' (first | (with_reducible exact Up.refl _) | (with_reducible assumption) | (with_reducible refine Up.alloc ?_ _) | (with_reducible refine Up.drew ?_) | (with_reducible refine Up.grow ?_ _) | (with_reducible refine Up.setCell ?_ (by (try simp); (try omega)) _)))⟩
  have HZ1 : ∀ w, Calls Try.prog 47 #[.agg #[.int .i64 T.first, .slice A T.n c, .int .i64 r], .int .i64 1048576] w (Ret w (.int .i64 (1048576 - T.n))) := fun w => by have h := l_SzB T r A c (by omega) 1048576 (by omega) (by omega) w; rwa [if_neg (by omega)] at h
  replace HZ1 := Lib.hid HZ1
  have hv : BasAt w T r (.agg #[.int .i64 T.first, .slice A T.n c, .int .i64 r]) := ⟨A, c, rfl, hn, hc, hb, hI⟩
  clear hI
  go_enter Try.func23, Try.ntmps23
  go_wp2_with fail
  refine (HZ1.out _).mono ?_; rintro e w1 ⟨rfl, hs1⟩
  have hA : Blk w1 w.heap.size 36 _ := ((Blk.new _ _ _).alloc _).up hs1
  have hP : Blk w1 (w.heap.size + 1) 38 #[.int .i64 p0, .int .i64 p1, .int .i64 p2, .int .i64 p3, .int .i64 p4] := by
    have h := (Blk.new (w.alloc (.cells #[.int .i64 T.first, .slice A T.n c, .int .i64 r] 36)) 38 #[.int .i64 p0, .int .i64 p1, .int .i64 p2, .int .i64 p3, .int .i64 p4]).up hs1
    simpa only [World.size_alloc] using h
  have hup : Up w w1 := (Up.alloc (Up.alloc (Up.refl _) _) _).trans hs1
  clear hs1
  generalize w.heap.size + 1 = B1 at *
  have a0 := hA.cell 0; have a1 := hA.cell 1; have a2 := hA.cell 2; have iA := hA.inw
  have b0 := hP.cell 0; have b1 := hP.cell 1; have b2 := hP.cell 2; have b3 := hP.cell 3; have b4 := hP.cell 4; have iP := hP.inw
  go_wp2_with fail
  go_region_held3 (fun w' => w'.cell? ⟨w.heap.size, 0, none⟩ = some (.int .i64 T.first) ∧ w'.cell? ⟨w.heap.size, 1, none⟩ = some (.slice A T.n c) ∧ w'.cell? ⟨w.heap.size, 2, none⟩ = some (.int .i64 r) ∧ w'.cell? ⟨B1, 0, none⟩ = some (.int .i64 p0) ∧ w'.cell? ⟨B1, 1, none⟩ = some (.int .i64 p1) ∧ w'.cell? ⟨B1, 2, none⟩ = some (.int .i64 p2) ∧ w'.cell? ⟨B1, 3, none⟩ = some (.int .i64 p3) ∧ w'.cell? ⟨B1, 4, none⟩ = some (.int .i64 p4)) ((repeat' apply And.intro) <;> go_simp)
    (first
      | (go_at_call 49; ((with_reducible refine (l_CopyB T r hb _ _ (hv.up (hup.trans (by repeat' (first | (with_reducible exact Up.refl _) | (with_reducible assumption) | (with_reducible refine Up.alloc ?_ _) | (with_reducible refine Up.drew ?_) | (with_reducible refine Up.grow ?_ _) | (with_reducible refine Up.setCell ?_ (by (try simp); (try omega)) _)))))).mono ?_); rintro e w3 ⟨v1, rfl, hb3, hT1⟩; have hb3 := (Up.drew (Up.refl w1)).trans hb3; have hA := hA.up hb3; have hP := hP.up hb3; have hup := hup.trans hb3; have a0 := hA.cell 0; have a1 := hA.cell 1; have a2 := hA.cell 2; have b0 := hP.cell 0; have b1 := hP.cell 1; have b2 := hP.cell 2; have b3 := hP.cell 3; have b4 := hP.cell 4))
      | (go_at_call 50; ((with_reducible refine (l_CopyPol _ _ _ _ _ _).mono ?_); rintro e w4 ⟨rfl, hb4⟩; have hA := hA.up hb4; have hP := hP.up hb4; have hup := hup.trans hb4; have a0 := hA.cell 0; have a1 := hA.cell 1; have a2 := hA.cell 2; have b0 := hP.cell 0; have b1 := hP.cell 1; have b2 := hP.cell 2; have b3 := hP.cell 3; have b4 := hP.cell 4))
      | (go_at_call 93; ((with_reducible refine (HS.out _ _ (hT1.up hb4).bas).mono ?_); rintro e w5 ⟨rfl, hb5⟩; have hA := hA.up hb5; have hP := hP.up hb5; have hup := hup.trans hb5; have a0 := hA.cell 0; have a1 := hA.cell 1; have a2 := hA.cell 2; have b0 := hP.cell 0; have b1 := hP.cell 1; have b2 := hP.cell 2; have b3 := hP.cell 3; have b4 := hP.cell 4)))
  have iA := hA.inw; have iP := hP.inw
  clear hT1 hb3 hb4 hb5
  go_wp2_with fail
  refine (l_CopyB T r hb _ _ (hv.up hup)).mono ?_; rintro e w6 ⟨v3, rfl, hb6, hX2⟩
  have hX := hX2
  obtain ⟨_, A2, c2, rfl, _⟩ := hX
  have hA := hA.up hb6; have hP := hP.up hb6; have hup := hup.trans hb6
  have a0 := hA.cell 0; have a1 := hA.cell 1; have a2 := hA.cell 2; have iA := hA.inw
  have b0 := hP.cell 0; have b1 := hP.cell 1; have b2 := hP.cell 2; have b3 := hP.cell 3; have b4 := hP.cell 4; have iP := hP.inw
  clear hb6
  go_wp2_with fail
  have hX := Blk.new w6 42 #[.int .i64 T.first, .slice A2 T.n c2, .int .i64 r]
  have hA := hA.alloc (.cells #[.int .i64 T.first, .slice A2 T.n c2, .int .i64 r] 42)
  have hP := hP.alloc (.cells #[.int .i64 T.first, .slice A2 T.n c2, .int .i64 r] 42)
  have hup := hup.alloc (.cells #[.int .i64 T.first, .slice A2 T.n c2, .int .i64 r] 42)
  have hX2 := hX2.up (Up.alloc (Up.refl w6) (.cells #[.int .i64 T.first, .slice A2 T.n c2, .int .i64 r] 42))
  clear a0 a1 a2 b0 b1 b2 b3 b4 iA iP
  generalize w6.alloc (.cells #[.int .i64 T.first, .slice A2 T.n c2, .int .i64 r] 42) = w7 at *
  generalize w6.heap.size = B6 at *
  have a0 := hA.cell 0; have a1 := hA.cell 1; have a2 := hA.cell 2; have iA := hA.inw
  have b0 := hP.cell 0; have b1 := hP.cell 1; have b2 := hP.cell 2; have b3 := hP.cell 3; have b4 := hP.cell 4; have iP := hP.inw
  have x0 := hX.cell 0; have x1 := hX.cell 1; have x2 := hX.cell 2; have iX := hX.inw
  go_region_held3 (fun w' => w'.cell? ⟨B6, 0, none⟩ = some (.int .i64 T.first) ∧ w'.cell? ⟨B6, 1, none⟩ = some (.slice A2 T.n c2) ∧ w'.cell? ⟨B6, 2, none⟩ = some (.int .i64 r) ∧ w'.cell? ⟨B1, 0, none⟩ = some (.int .i64 p0) ∧ w'.cell? ⟨B1, 1, none⟩ = some (.int .i64 p1) ∧ w'.cell? ⟨B1, 2, none⟩ = some (.int .i64 p2) ∧ w'.cell? ⟨B1, 3, none⟩ = some (.int .i64 p3) ∧ w'.cell? ⟨B1, 4, none⟩ = some (.int .i64 p4)) ((repeat' apply And.intro) <;> go_simp)
    (first
      | (go_at_call 50; ((with_reducible refine (l_CopyPol _ _ _ _ _ _).mono ?_); rintro e w8 ⟨rfl, hb8⟩; have hb8 := (Up.drew (Up.refl w7)).trans hb8; have hA := hA.up hb8; have hP := hP.up hb8; have hX := hX.up hb8; have hup := hup.trans hb8; have hX2 := hX2.up hb8; have x0 := hX.cell 0; have x1 := hX.cell 1; have x2 := hX.cell 2; have b0 := hP.cell 0; have b1 := hP.cell 1; have b2 := hP.cell 2; have b3 := hP.cell 3; have b4 := hP.cell 4))
      | (go_at_call 94; ((with_reducible refine (HI.out _ _ hX2.bas).mono ?_); rintro e w9 ⟨rfl, hb9⟩; have hA := hA.up hb9; have hP := hP.up hb9; have hX := hX.up hb9; have hup := hup.trans hb9; have hX2 := hX2.up hb9; have x0 := hX.cell 0; have x1 := hX.cell 1; have x2 := hX.cell 2; have b0 := hP.cell 0; have b1 := hP.cell 1; have b2 := hP.cell 2; have b3 := hP.cell 3; have b4 := hP.cell 4)))
  clear hb8 hb9 b0 b1 b2 b3 b4 iP hP
  have a0 := hA.cell 0; have a1 := hA.cell 1; have a2 := hA.cell 2; have iA := hA.inw; have iX := hX.inw
  go_wp2_with fail
  go_region_held3 (fun w' => w'.cell? ⟨B6, 0, none⟩ = some (.int .i64 T.first) ∧ w'.cell? ⟨B6, 1, none⟩ = some (.slice A2 T.n c2) ∧ w'.cell? ⟨B6, 2, none⟩ = some (.int .i64 r) ∧ w'.cell? ⟨w.heap.size, 0, none⟩ = some (.int .i64 T.first) ∧ w'.cell? ⟨w.heap.size, 1, none⟩ = some (.slice A T.n c) ∧ w'.cell? ⟨w.heap.size, 2, none⟩ = some (.int .i64 r)) ((repeat' apply And.intro) <;> go_simp)
    (first
      | (go_at_call 49; ((with_reducible refine (l_CopyB T r hb _ _ (hv.up (hup.trans (by repeat' (first | (with_reducible exact Up.refl _) | (with_reducible assumption) | (with_reducible refine Up.alloc ?_ _) | (with_reducible refine Up.drew ?_) | (with_reducible refine Up.grow ?_ _) | (with_reducible refine Up.setCell ?_ (by (try simp); (try omega)) _)))))).mono ?_); rintro e w10 ⟨v5, rfl, hb10, hT3⟩; have hb10 := (Up.drew (Up.refl w9)).trans hb10; have hA := hA.up hb10; have hX := hX.up hb10; have hup := hup.trans hb10; have hX2 := hX2.up hb10; have a0 := hA.cell 0; have a1 := hA.cell 1; have a2 := hA.cell 2; have x0 := hX.cell 0; have x1 := hX.cell 1; have x2 := hX.cell 2))
      | (go_at_call 52; ((with_reducible refine (l_EqB T r _ _ _ hX2.bas hT3.bas).mono ?_); rintro e w11 ⟨rfl, hb11⟩; have hA := hA.up hb11; have hX := hX.up hb11; have hup := hup.trans hb11; have a0 := hA.cell 0; have a1 := hA.cell 1; have a2 := hA.cell 2; have x0 := hX.cell 0; have x1 := hX.cell 1; have x2 := hX.cell 2)))
  go_wp2_with fail
  go_ret
  exact ⟨rfl, hup⟩
set_option maxRecDepth 100000 in
set_option maxHeartbeats 4000000 in
theorem l_GreatestReserve (T : Tab) (r : Int) (A : Option Addr) (c : Nat) (hn : T.n ≤ c) (hc : c ≤ 9223372036854775807) (p0 p1 p2 p3 p4 p5 : Int) (w : World) (hI : Ints w A T.n T.f) (q1 q2 q3 : Int)
    (HS : Hid (∀ v w, BasAt w T r v → Calls Try.prog 85 #[v, .agg #[.int .i64 (p0), .int .i64 (p1), .int .i64 (p2), .int .i64 (p3), .int .i64 (p4)]] w (Ret w (.tuple #[.int .i64 q1, .int .i64 q2, .int .i64 q3])))) (HI : Hid (∀ v w, BasAt w T r v → Calls Try.prog 86 #[v, .agg #[.int .i64 (p0), .int .i64 (p1), .int .i64 (p2), .int .i64 (p3), .int .i64 (p4)]] w (Ret w (.tuple #[.int .i64 q1, .int .i64 q2, .int .i64 q3])))) :
    Calls Try.prog 19 #[.agg #[.int .i64 T.first, .slice A T.n c, .int .i64 r], .agg #[.int .i64 (p0), .int .i64 (p1), .int .i64 (p2), .int .i64 (p3), .int .i64 (p4)]] w (Ret w (.bool true)) := by
  by_cases hb : T.n ≤ 1048576
  case neg =>
    have HZ1 : ∀ w, Calls Try.prog 47 #[.agg #[.int .i64 T.first, .slice A T.n c, .int .i64 r], .int .i64 1048576] w (Ret w (.int .i64 (-1))) := fun w => by have h := l_SzB T r A c (by omega) 1048576 (by omega) (by omega) w; rwa [if_pos (by omega)] at h
    replace HZ1 := Lib.hid HZ1
    go_enter Try.func19, Try.ntmps19
    go_wp2_with (go_at_call 47; refine (HZ1.out _).mono ?_; rintro e w' ⟨rfl, hb⟩; first | (obtain ⟨x, rfl⟩ := Grow.on x hb) | (obtain ⟨x, rfl⟩ := Grow.mk' hb))
    go_ret
    exact ⟨rfl, (by repeat' (first | (with_reducible exact Up.refl _) | (with_reducible assumption) | (with_reducible refine Up.alloc ?_ _) | (with_reducible refine Up.drew ?_) | (with_reducible refine Up.grow ?_ _) | (with_reducible refine Up.setCell ?_ (by (try simp); (try omega)) _)))⟩
  have HZ1 : ∀ w, Calls Try.prog 47 #[.agg #[.int .i64 T.first, .slice A T.n c, .int .i64 r], .int .i64 1048576] w (Ret w (.int .i64 (1048576 - T.n))) := fun w => by have h := l_SzB T r A c (by omega) 1048576 (by omega) (by omega) w; rwa [if_neg (by omega)] at h
  replace HZ1 := Lib.hid HZ1
  have hv : BasAt w T r (.agg #[.int .i64 T.first, .slice A T.n c, .int .i64 r]) := ⟨A, c, rfl, hn, hc, hb, hI⟩
  clear hI
  go_enter Try.func19, Try.ntmps19
  go_wp2_with fail
  refine (HZ1.out _).mono ?_; rintro e w1 ⟨rfl, hs1⟩
  have hA : Blk w1 w.heap.size 36 _ := ((Blk.new _ _ _).alloc _).up hs1
  have hP : Blk w1 (w.heap.size + 1) 38 #[.int .i64 p0, .int .i64 p1, .int .i64 p2, .int .i64 p3, .int .i64 p4] := by
    have h := (Blk.new (w.alloc (.cells #[.int .i64 T.first, .slice A T.n c, .int .i64 r] 36)) 38 #[.int .i64 p0, .int .i64 p1, .int .i64 p2, .int .i64 p3, .int .i64 p4]).up hs1
    simpa only [World.size_alloc] using h
  have hup : Up w w1 := (Up.alloc (Up.alloc (Up.refl _) _) _).trans hs1
  clear hs1
  generalize w.heap.size + 1 = B1 at *
  have a0 := hA.cell 0; have a1 := hA.cell 1; have a2 := hA.cell 2; have iA := hA.inw
  have b0 := hP.cell 0; have b1 := hP.cell 1; have b2 := hP.cell 2; have b3 := hP.cell 3; have b4 := hP.cell 4; have iP := hP.inw
  go_wp2_with fail
  go_region_held3 (fun w' => w'.cell? ⟨w.heap.size, 0, none⟩ = some (.int .i64 T.first) ∧ w'.cell? ⟨w.heap.size, 1, none⟩ = some (.slice A T.n c) ∧ w'.cell? ⟨w.heap.size, 2, none⟩ = some (.int .i64 r) ∧ w'.cell? ⟨B1, 0, none⟩ = some (.int .i64 p0) ∧ w'.cell? ⟨B1, 1, none⟩ = some (.int .i64 p1) ∧ w'.cell? ⟨B1, 2, none⟩ = some (.int .i64 p2) ∧ w'.cell? ⟨B1, 3, none⟩ = some (.int .i64 p3) ∧ w'.cell? ⟨B1, 4, none⟩ = some (.int .i64 p4)) ((repeat' apply And.intro) <;> go_simp)
    (first
      | (go_at_call 49; ((with_reducible refine (l_CopyB T r hb _ _ (hv.up (hup.trans (by repeat' (first | (with_reducible exact Up.refl _) | (with_reducible assumption) | (with_reducible refine Up.alloc ?_ _) | (with_reducible refine Up.drew ?_) | (with_reducible refine Up.grow ?_ _) | (with_reducible refine Up.setCell ?_ (by (try simp); (try omega)) _)))))).mono ?_); rintro e w3 ⟨v1, rfl, hb3, hT1⟩; have hb3 := (Up.drew (Up.refl w1)).trans hb3; have hA := hA.up hb3; have hP := hP.up hb3; have hup := hup.trans hb3; have a0 := hA.cell 0; have a1 := hA.cell 1; have a2 := hA.cell 2; have b0 := hP.cell 0; have b1 := hP.cell 1; have b2 := hP.cell 2; have b3 := hP.cell 3; have b4 := hP.cell 4))
      | (go_at_call 50; ((with_reducible refine (l_CopyPol _ _ _ _ _ _).mono ?_); rintro e w4 ⟨rfl, hb4⟩; have hA := hA.up hb4; have hP := hP.up hb4; have hup := hup.trans hb4; have a0 := hA.cell 0; have a1 := hA.cell 1; have a2 := hA.cell 2; have b0 := hP.cell 0; have b1 := hP.cell 1; have b2 := hP.cell 2; have b3 := hP.cell 3; have b4 := hP.cell 4))
      | (go_at_call 85; ((with_reducible refine (HS.out _ _ (hT1.up hb4).bas).mono ?_); rintro e w5 ⟨rfl, hb5⟩; have hA := hA.up hb5; have hP := hP.up hb5; have hup := hup.trans hb5; have a0 := hA.cell 0; have a1 := hA.cell 1; have a2 := hA.cell 2; have b0 := hP.cell 0; have b1 := hP.cell 1; have b2 := hP.cell 2; have b3 := hP.cell 3; have b4 := hP.cell 4)))
  have iA := hA.inw; have iP := hP.inw
  clear hT1 hb3 hb4 hb5
  go_wp2_with fail
  refine (l_CopyB T r hb _ _ (hv.up hup)).mono ?_; rintro e w6 ⟨v3, rfl, hb6, hX2⟩
  have hX := hX2
  obtain ⟨_, A2, c2, rfl, _⟩ := hX
  have hA := hA.up hb6; have hP := hP.up hb6; have hup := hup.trans hb6
  have a0 := hA.cell 0; have a1 := hA.cell 1; have a2 := hA.cell 2; have iA := hA.inw
  have b0 := hP.cell 0; have b1 := hP.cell 1; have b2 := hP.cell 2; have b3 := hP.cell 3; have b4 := hP.cell 4; have iP := hP.inw
  clear hb6
  go_wp2_with fail
  have hX := Blk.new w6 42 #[.int .i64 T.first, .slice A2 T.n c2, .int .i64 r]
  have hA := hA.alloc (.cells #[.int .i64 T.first, .slice A2 T.n c2, .int .i64 r] 42)
  have hP := hP.alloc (.cells #[.int .i64 T.first, .slice A2 T.n c2, .int .i64 r] 42)
  have hup := hup.alloc (.cells #[.int .i64 T.first, .slice A2 T.n c2, .int .i64 r] 42)
  have hX2 := hX2.up (Up.alloc (Up.refl w6) (.cells #[.int .i64 T.first, .slice A2 T.n c2, .int .i64 r] 42))
  clear a0 a1 a2 b0 b1 b2 b3 b4 iA iP
  generalize w6.alloc (.cells #[.int .i64 T.first, .slice A2 T.n c2, .int .i64 r] 42) = w7 at *
  generalize w6.heap.size = B6 at *
  have a0 := hA.cell 0; have a1 := hA.cell 1; have a2 := hA.cell 2; have iA := hA.inw
  have b0 := hP.cell 0; have b1 := hP.cell 1; have b2 := hP.cell 2; have b3 := hP.cell 3; have b4 := hP.cell 4; have iP := hP.inw
  have x0 := hX.cell 0; have x1 := hX.cell 1; have x2 := hX.cell 2; have iX := hX.inw
  go_region_held3 (fun w' => w'.cell? ⟨B6, 0, none⟩ = some (.int .i64 T.first) ∧ w'.cell? ⟨B6, 1, none⟩ = some (.slice A2 T.n c2) ∧ w'.cell? ⟨B6, 2, none⟩ = some (.int .i64 r) ∧ w'.cell? ⟨B1, 0, none⟩ = some (.int .i64 p0) ∧ w'.cell? ⟨B1, 1, none⟩ = some (.int .i64 p1) ∧ w'.cell? ⟨B1, 2, none⟩ = some (.int .i64 p2) ∧ w'.cell? ⟨B1, 3, none⟩ = some (.int .i64 p3) ∧ w'.cell? ⟨B1, 4, none⟩ = some (.int .i64 p4)) ((repeat' apply And.intro) <;> go_simp)
    (first
      | (go_at_call 50; ((with_reducible refine (l_CopyPol _ _ _ _ _ _).mono ?_); rintro e w8 ⟨rfl, hb8⟩; have hb8 := (Up.drew (Up.refl w7)).trans hb8; have hA := hA.up hb8; have hP := hP.up hb8; have hX := hX.up hb8; have hup := hup.trans hb8; have hX2 := hX2.up hb8; have x0 := hX.cell 0; have x1 := hX.cell 1; have x2 := hX.cell 2; have b0 := hP.cell 0; have b1 := hP.cell 1; have b2 := hP.cell 2; have b3 := hP.cell 3; have b4 := hP.cell 4))
      | (go_at_call 86; ((with_reducible refine (HI.out _ _ hX2.bas).mono ?_); rintro e w9 ⟨rfl, hb9⟩; have hA := hA.up hb9; have hP := hP.up hb9; have hX := hX.up hb9; have hup := hup.trans hb9; have hX2 := hX2.up hb9; have x0 := hX.cell 0; have x1 := hX.cell 1; have x2 := hX.cell 2; have b0 := hP.cell 0; have b1 := hP.cell 1; have b2 := hP.cell 2; have b3 := hP.cell 3; have b4 := hP.cell 4)))
  clear hb8 hb9 b0 b1 b2 b3 b4 iP hP
  have a0 := hA.cell 0; have a1 := hA.cell 1; have a2 := hA.cell 2; have iA := hA.inw; have iX := hX.inw
  go_wp2_with fail
  go_region_held3 (fun w' => w'.cell? ⟨B6, 0, none⟩ = some (.int .i64 T.first) ∧ w'.cell? ⟨B6, 1, none⟩ = some (.slice A2 T.n c2) ∧ w'.cell? ⟨B6, 2, none⟩ = some (.int .i64 r) ∧ w'.cell? ⟨w.heap.size, 0, none⟩ = some (.int .i64 T.first) ∧ w'.cell? ⟨w.heap.size, 1, none⟩ = some (.slice A T.n c) ∧ w'.cell? ⟨w.heap.size, 2, none⟩ = some (.int .i64 r)) ((repeat' apply And.intro) <;> go_simp)
    (first
      | (go_at_call 49; ((with_reducible refine (l_CopyB T r hb _ _ (hv.up (hup.trans (by repeat' (first | (with_reducible exact Up.refl _) | (with_reducible assumption) | (with_reducible refine Up.alloc ?_ _) | (with_reducible refine Up.drew ?_) | (with_reducible refine Up.grow ?_ _) | (with_reducible refine Up.setCell ?_ (by (try simp); (try omega)) _)))))).mono ?_); rintro e w10 ⟨v5, rfl, hb10, hT3⟩; have hb10 := (Up.drew (Up.refl w9)).trans hb10; have hA := hA.up hb10; have hX := hX.up hb10; have hup := hup.trans hb10; have hX2 := hX2.up hb10; have a0 := hA.cell 0; have a1 := hA.cell 1; have a2 := hA.cell 2; have x0 := hX.cell 0; have x1 := hX.cell 1; have x2 := hX.cell 2))
      | (go_at_call 52; ((with_reducible refine (l_EqB T r _ _ _ hX2.bas hT3.bas).mono ?_); rintro e w11 ⟨rfl, hb11⟩; have hA := hA.up hb11; have hX := hX.up hb11; have hup := hup.trans hb11; have a0 := hA.cell 0; have a1 := hA.cell 1; have a2 := hA.cell 2; have x0 := hX.cell 0; have x1 := hX.cell 1; have x2 := hX.cell 2)))
  go_wp2_with fail
  go_ret
  exact ⟨rfl, hup⟩
set_option maxRecDepth 100000 in
set_option maxHeartbeats 4000000 in
theorem l_SurrenderValue (T : Tab) (r : Int) (A : Option Addr) (c : Nat) (hn : T.n ≤ c) (hc : c ≤ 9223372036854775807) (p0 p1 p2 p3 p4 p5 : Int) (w : World) (hI : Ints w A T.n T.f) (q1 q2 : Int)
    (HS : Hid (∀ v w, BasAt w T r v → Calls Try.prog 89 #[v, .agg #[.int .i64 (p0), .int .i64 (p1), .int .i64 (p2), .int .i64 (p3), .int .i64 (p4)], .int .i64 p5] w (Ret w (.tuple #[.int .i64 q1, .int .i64 q2])))) (HI : Hid (∀ v w, BasAt w T r v → Calls Try.prog 90 #[v, .agg #[.int .i64 (p0), .int .i64 (p1), .int .i64 (p2), .int .i64 (p3), .int .i64 (p4)], .int .i64 p5] w (Ret w (.tuple #[.int .i64 q1, .int .i64 q2])))) :
    Calls Try.prog 21 #[.agg #[.int .i64 T.first, .slice A T.n c, .int .i64 r], .agg #[.int .i64 (p0), .int .i64 (p1), .int .i64 (p2), .int .i64 (p3), .int .i64 (p4)], .int .i64 p5] w (Ret w (.bool true)) := by
  by_cases hb : T.n ≤ 1048576
  case neg =>
    have HZ1 : ∀ w, Calls Try.prog 47 #[.agg #[.int .i64 T.first, .slice A T.n c, .int .i64 r], .int .i64 1048576] w (Ret w (.int .i64 (-1))) := fun w => by have h := l_SzB T r A c (by omega) 1048576 (by omega) (by omega) w; rwa [if_pos (by omega)] at h
    replace HZ1 := Lib.hid HZ1
    go_enter Try.func21, Try.ntmps21
    go_wp2_with (go_at_call 47; refine (HZ1.out _).mono ?_; rintro e w' ⟨rfl, hb⟩; first | (obtain ⟨x, rfl⟩ := Grow.on x hb) | (obtain ⟨x, rfl⟩ := Grow.mk' hb))
    go_ret
    exact ⟨rfl, (by repeat' (first | (with_reducible exact Up.refl _) | (with_reducible assumption) | (with_reducible refine Up.alloc ?_ _) | (with_reducible refine Up.drew ?_) | (with_reducible refine Up.grow ?_ _) | (with_reducible refine Up.setCell ?_ (by (try simp); (try omega)) _)))⟩
  have HZ1 : ∀ w, Calls Try.prog 47 #[.agg #[.int .i64 T.first, .slice A T.n c, .int .i64 r], .int .i64 1048576] w (Ret w (.int .i64 (1048576 - T.n))) := fun w => by have h := l_SzB T r A c (by omega) 1048576 (by omega) (by omega) w; rwa [if_neg (by omega)] at h
  replace HZ1 := Lib.hid HZ1
  have hv : BasAt w T r (.agg #[.int .i64 T.first, .slice A T.n c, .int .i64 r]) := ⟨A, c, rfl, hn, hc, hb, hI⟩
  clear hI
  go_enter Try.func21, Try.ntmps21
  go_wp2_with fail
  refine (HZ1.out _).mono ?_; rintro e w1 ⟨rfl, hs1⟩
  have hA : Blk w1 w.heap.size 36 _ := ((Blk.new _ _ _).alloc _).up hs1
  have hP : Blk w1 (w.heap.size + 1) 38 #[.int .i64 p0, .int .i64 p1, .int .i64 p2, .int .i64 p3, .int .i64 p4] := by
    have h := (Blk.new (w.alloc (.cells #[.int .i64 T.first, .slice A T.n c, .int .i64 r] 36)) 38 #[.int .i64 p0, .int .i64 p1, .int .i64 p2, .int .i64 p3, .int .i64 p4]).up hs1
    simpa only [World.size_alloc] using h
  have hup : Up w w1 := (Up.alloc (Up.alloc (Up.refl _) _) _).trans hs1
  clear hs1
  generalize w.heap.size + 1 = B1 at *
  have a0 := hA.cell 0; have a1 := hA.cell 1; have a2 := hA.cell 2; have iA := hA.inw
  have b0 := hP.cell 0; have b1 := hP.cell 1; have b2 := hP.cell 2; have b3 := hP.cell 3; have b4 := hP.cell 4; have iP := hP.inw
  go_wp2_with fail
  go_region_held3 (fun w' => w'.cell? ⟨w.heap.size, 0, none⟩ = some (.int .i64 T.first) ∧ w'.cell? ⟨w.heap.size, 1, none⟩ = some (.slice A T.n c) ∧ w'.cell? ⟨w.heap.size, 2, none⟩ = some (.int .i64 r) ∧ w'.cell? ⟨B1, 0, none⟩ = some (.int .i64 p0) ∧ w'.cell? ⟨B1, 1, none⟩ = some (.int .i64 p1) ∧ w'.cell? ⟨B1, 2, none⟩ = some (.int .i64 p2) ∧ w'.cell? ⟨B1, 3, none⟩ = some (.int .i64 p3) ∧ w'.cell? ⟨B1, 4, none⟩ = some (.int .i64 p4)) ((repeat' apply And.intro) <;> go_simp)
    (first
      | (go_at_call 49; ((with_reducible refine (l_CopyB T r hb _ _ (hv.up (hup.trans (by repeat' (first | (with_reducible exact Up.refl _) | (with_reducible assumption) | (with_reducible refine Up.alloc ?_ _) | (with_reducible refine Up.drew ?_) | (with_reducible refine Up.grow ?_ _) | (with_reducible refine Up.setCell ?_ (by (try simp); (try omega)) _)))))).mono ?_); rintro e w3 ⟨v1, rfl, hb3, hT1⟩; have hb3 := (Up.drew (Up.refl w1)).trans hb3; have hA := hA.up hb3; have hP := hP.up hb3; have hup := hup.trans hb3; have a0 := hA.cell 0; have a1 := hA.cell 1; have a2 := hA.cell 2; have b0 := hP.cell 0; have b1 := hP.cell 1; have b2 := hP.cell 2; have b3 := hP.cell 3; have b4 := hP.cell 4))
      | (go_at_call 50; ((with_reducible refine (l_CopyPol _ _ _ _ _ _).mono ?_); rintro e w4 ⟨rfl, hb4⟩; have hA := hA.up hb4; have hP := hP.up hb4; have hup := hup.trans hb4; have a0 := hA.cell 0; have a1 := hA.cell 1; have a2 := hA.cell 2; have b0 := hP.cell 0; have b1 := hP.cell 1; have b2 := hP.cell 2; have b3 := hP.cell 3; have b4 := hP.cell 4))
      | (go_at_call 89; ((with_reducible refine (HS.out _ _ (hT1.up hb4).bas).mono ?_); rintro e w5 ⟨rfl, hb5⟩; have hA := hA.up hb5; have hP := hP.up hb5; have hup := hup.trans hb5; have a0 := hA.cell 0; have a1 := hA.cell 1; have a2 := hA.cell 2; have b0 := hP.cell 0; have b1 := hP.cell 1; have b2 := hP.cell 2; have b3 := hP.cell 3; have b4 := hP.cell 4)))
  have iA := hA.inw; have iP := hP.inw
  clear hT1 hb3 hb4 hb5
  go_wp2_with fail
  refine (l_CopyB T r hb _ _ (hv.up hup)).mono ?_; rintro e w6 ⟨v3, rfl, hb6, hX2⟩
  have hX := hX2
  obtain ⟨_, A2, c2, rfl, _⟩ := hX
  have hA := hA.up hb6; have hP := hP.up hb6; have hup := hup.trans hb6
  have a0 := hA.cell 0; have a1 := hA.cell 1; have a2 := hA.cell 2; have iA := hA.inw
  have b0 := hP.cell 0; have b1 := hP.cell 1; have b2 := hP.cell 2; have b3 := hP.cell 3; have b4 := hP.cell 4; have iP := hP.inw
  clear hb6
  go_wp2_with fail
  have hX := Blk.new w6 42 #[.int .i64 T.first, .slice A2 T.n c2, .int .i64 r]
  have hA := hA.alloc (.cells #[.int .i64 T.first, .slice A2 T.n c2, .int .i64 r] 42)
  have hP := hP.alloc (.cells #[.int .i64 T.first, .slice A2 T.n c2, .int .i64 r] 42)
  have hup := hup.alloc (.cells #[.int .i64 T.first, .slice A2 T.n c2, .int .i64 r] 42)
  have hX2 := hX2.up (Up.alloc (Up.refl w6) (.cells #[.int .i64 T.first, .slice A2 T.n c2, .int .i64 r] 42))
  clear a0 a1 a2 b0 b1 b2 b3 b4 iA iP
  generalize w6.alloc (.cells #[.int .i64 T.first, .slice A2 T.n c2, .int .i64 r] 42) = w7 at *
  generalize w6.heap.size = B6 at *
  have a0 := hA.cell 0; have a1 := hA.cell 1; have a2 := hA.cell 2; have iA := hA.inw
  have b0 := hP.cell 0; have b1 := hP.cell 1; have b2 := hP.cell 2; have b3 := hP.cell 3; have b4 := hP.cell 4; have iP := hP.inw
  have x0 := hX.cell 0; have x1 := hX.cell 1; have x2 := hX.cell 2; have iX := hX.inw
  go_region_held3 (fun w' => w'.cell? ⟨B6, 0, none⟩ = some (.int .i64 T.first) ∧ w'.cell? ⟨B6, 1, none⟩ = some (.slice A2 T.n c2) ∧ w'.cell? ⟨B6, 2, none⟩ = some (.int .i64 r) ∧ w'.cell? ⟨B1, 0, none⟩ = some (.int .i64 p0) ∧ w'.cell? ⟨B1, 1, none⟩ = some (.int .i64 p1) ∧ w'.cell? ⟨B1, 2, none⟩ = some (.int .i64 p2) ∧ w'.cell? ⟨B1, 3, none⟩ = some (.int .i64 p3) ∧ w'.cell? ⟨B1, 4, none⟩ = some (.int .i64 p4)) ((repeat' apply And.intro) <;> go_simp)
    (first
      | (go_at_call 50; ((with_reducible refine (l_CopyPol _ _ _ _ _ _).mono ?_); rintro e w8 ⟨rfl, hb8⟩; have hb8 := (Up.drew (Up.refl w7)).trans hb8; have hA := hA.up hb8; have hP := hP.up hb8; have hX := hX.up hb8; have hup := hup.trans hb8; have hX2 := hX2.up hb8; have x0 := hX.cell 0; have x1 := hX.cell 1; have x2 := hX.cell 2; have b0 := hP.cell 0; have b1 := hP.cell 1; have b2 := hP.cell 2; have b3 := hP.cell 3; have b4 := hP.cell 4))
      | (go_at_call 90; ((with_reducible refine (HI.out _ _ hX2.bas).mono ?_); rintro e w9 ⟨rfl, hb9⟩; have hA := hA.up hb9; have hP := hP.up hb9; have hX := hX.up hb9; have hup := hup.trans hb9; have hX2 := hX2.up hb9; have x0 := hX.cell 0; have x1 := hX.cell 1; have x2 := hX.cell 2; have b0 := hP.cell 0; have b1 := hP.cell 1; have b2 := hP.cell 2; have b3 := hP.cell 3; have b4 := hP.cell 4)))
  clear hb8 hb9 b0 b1 b2 b3 b4 iP hP
  have a0 := hA.cell 0; have a1 := hA.cell 1; have a2 := hA.cell 2; have iA := hA.inw; have iX := hX.inw
  go_wp2_with fail
  go_region_held3 (fun w' => w'.cell? ⟨B6, 0, none⟩ = some (.int .i64 T.first) ∧ w'.cell? ⟨B6, 1, none⟩ = some (.slice A2 T.n c2) ∧ w'.cell? ⟨B6, 2, none⟩ = some (.int .i64 r) ∧ w'.cell? ⟨w.heap.size, 0, none⟩ = some (.int .i64 T.first) ∧ w'.cell? ⟨w.heap.size, 1, none⟩ = some (.slice A T.n c) ∧ w'.cell? ⟨w.heap.size, 2, none⟩ = some (.int .i64 r)) ((repeat' apply And.intro) <;> go_simp)
    (first
      | (go_at_call 49; ((with_reducible refine (l_CopyB T r hb _ _ (hv.up (hup.trans (by repeat' (first | (with_reducible exact Up.refl _) | (with_reducible assumption) | (with_reducible refine Up.alloc ?_ _) | (with_reducible refine Up.drew ?_) | (with_reducible refine Up.grow ?_ _) | (with_reducible refine Up.setCell ?_ (by (try simp); (try omega)) _)))))).mono ?_); rintro e w10 ⟨v5, rfl, hb10, hT3⟩; have hb10 := (Up.drew (Up.refl w9)).trans hb10; have hA := hA.up hb10; have hX := hX.up hb10; have hup := hup.trans hb10; have hX2 := hX2.up hb10; have a0 := hA.cell 0; have a1 := hA.cell 1; have a2 := hA.cell 2; have x0 := hX.cell 0; have x1 := hX.cell 1; have x2 := hX.cell 2))
      | (go_at_call 52; ((with_reducible refine (l_EqB T r _ _ _ hX2.bas hT3.bas).mono ?_); rintro e w11 ⟨rfl, hb11⟩; have hA := hA.up hb11; have hX := hX.up hb11; have hup := hup.trans hb11; have a0 := hA.cell 0; have a1 := hA.cell 1; have a2 := hA.cell 2; have x0 := hX.cell 0; have x1 := hX.cell 1; have x2 := hX.cell 2)))
  go_wp2_with fail
  go_ret
  exact ⟨rfl, hup⟩
set_option maxRecDepth 100000 in
set_option maxHeartbeats 4000000 in
theorem l_PaidUpSum (T : Tab) (r : Int) (A : Option Addr) (c : Nat) (hn : T.n ≤ c) (hc : c ≤ 9223372036854775807) (p0 p1 p2 p3 p4 p5 : Int) (w : World) (hI : Ints w A T.n T.f) (q1 q2 : Int)
    (HS : Hid (∀ v w, BasAt w T r v → Calls Try.prog 95 #[v, .agg #[.int .i64 (p0), .int .i64 (p1), .int .i64 (p2), .int .i64 (p3), .int .i64 (p4)], .int .i64 p5] w (Ret w (.tuple #[.int .i64 q1, .int .i64 q2])))) (HI : Hid (∀ v w, BasAt w T r v → Calls Try.prog 96 #[v, .agg #[.int .i64 (p0), .int .i64 (p1), .int .i64 (p2), .int .i64 (p3), .int .i64 (p4)], .int .i64 p5] w (Ret w (.tuple #[.int .i64 q1, .int .i64 q2])))) :
    Calls Try.prog 24 #[.agg #[.int .i64 T.first, .slice A T.n c, .int .i64 r], .agg #[.int .i64 (p0), .int .i64 (p1), .int .i64 (p2), .int .i64 (p3), .int .i64 (p4)], .int .i64 p5] w (Ret w (.bool true)) := by
  by_cases hb : T.n ≤ 1048576
  case neg =>
    have HZ1 : ∀ w, Calls Try.prog 47 #[.agg #[.int .i64 T.first, .slice A T.n c, .int .i64 r], .int .i64 1048576] w (Ret w (.int .i64 (-1))) := fun w => by have h := l_SzB T r A c (by omega) 1048576 (by omega) (by omega) w; rwa [if_pos (by omega)] at h
    replace HZ1 := Lib.hid HZ1
    go_enter Try.func24, Try.ntmps24
    go_wp2_with (go_at_call 47; refine (HZ1.out _).mono ?_; rintro e w' ⟨rfl, hb⟩; first | (obtain ⟨x, rfl⟩ := Grow.on x hb) | (obtain ⟨x, rfl⟩ := Grow.mk' hb))
    go_ret
    exact ⟨rfl, (by repeat' (first | (with_reducible exact Up.refl _) | (with_reducible assumption) | (with_reducible refine Up.alloc ?_ _) | (with_reducible refine Up.drew ?_) | (with_reducible refine Up.grow ?_ _) | (with_reducible refine Up.setCell ?_ (by (try simp); (try omega)) _)))⟩
  have HZ1 : ∀ w, Calls Try.prog 47 #[.agg #[.int .i64 T.first, .slice A T.n c, .int .i64 r], .int .i64 1048576] w (Ret w (.int .i64 (1048576 - T.n))) := fun w => by have h := l_SzB T r A c (by omega) 1048576 (by omega) (by omega) w; rwa [if_neg (by omega)] at h
  replace HZ1 := Lib.hid HZ1
  have hv : BasAt w T r (.agg #[.int .i64 T.first, .slice A T.n c, .int .i64 r]) := ⟨A, c, rfl, hn, hc, hb, hI⟩
  clear hI
  go_enter Try.func24, Try.ntmps24
  go_wp2_with fail
  refine (HZ1.out _).mono ?_; rintro e w1 ⟨rfl, hs1⟩
  have hA : Blk w1 w.heap.size 36 _ := ((Blk.new _ _ _).alloc _).up hs1
  have hP : Blk w1 (w.heap.size + 1) 38 #[.int .i64 p0, .int .i64 p1, .int .i64 p2, .int .i64 p3, .int .i64 p4] := by
    have h := (Blk.new (w.alloc (.cells #[.int .i64 T.first, .slice A T.n c, .int .i64 r] 36)) 38 #[.int .i64 p0, .int .i64 p1, .int .i64 p2, .int .i64 p3, .int .i64 p4]).up hs1
    simpa only [World.size_alloc] using h
  have hup : Up w w1 := (Up.alloc (Up.alloc (Up.refl _) _) _).trans hs1
  clear hs1
  generalize w.heap.size + 1 = B1 at *
  have a0 := hA.cell 0; have a1 := hA.cell 1; have a2 := hA.cell 2; have iA := hA.inw
  have b0 := hP.cell 0; have b1 := hP.cell 1; have b2 := hP.cell 2; have b3 := hP.cell 3; have b4 := hP.cell 4; have iP := hP.inw
  go_wp2_with fail
  go_region_held3 (fun w' => w'.cell? ⟨w.heap.size, 0, none⟩ = some (.int .i64 T.first) ∧ w'.cell? ⟨w.heap.size, 1, none⟩ = some (.slice A T.n c) ∧ w'.cell? ⟨w.heap.size, 2, none⟩ = some (.int .i64 r) ∧ w'.cell? ⟨B1, 0, none⟩ = some (.int .i64 p0) ∧ w'.cell? ⟨B1, 1, none⟩ = some (.int .i64 p1) ∧ w'.cell? ⟨B1, 2, none⟩ = some (.int .i64 p2) ∧ w'.cell? ⟨B1, 3, none⟩ = some (.int .i64 p3) ∧ w'.cell? ⟨B1, 4, none⟩ = some (.int .i64 p4)) ((repeat' apply And.intro) <;> go_simp)
    (first
      | (go_at_call 49; ((with_reducible refine (l_CopyB T r hb _ _ (hv.up (hup.trans (by repeat' (first | (with_reducible exact Up.refl _) | (with_reducible assumption) | (with_reducible refine Up.alloc ?_ _) | (with_reducible refine Up.drew ?_) | (with_reducible refine Up.grow ?_ _) | (with_reducible refine Up.setCell ?_ (by (try simp); (try omega)) _)))))).mono ?_); rintro e w3 ⟨v1, rfl, hb3, hT1⟩; have hb3 := (Up.drew (Up.refl w1)).trans hb3; have hA := hA.up hb3; have hP := hP.up hb3; have hup := hup.trans hb3; have a0 := hA.cell 0; have a1 := hA.cell 1; have a2 := hA.cell 2; have b0 := hP.cell 0; have b1 := hP.cell 1; have b2 := hP.cell 2; have b3 := hP.cell 3; have b4 := hP.cell 4))
      | (go_at_call 50; ((with_reducible refine (l_CopyPol _ _ _ _ _ _).mono ?_); rintro e w4 ⟨rfl, hb4⟩; have hA := hA.up hb4; have hP := hP.up hb4; have hup := hup.trans hb4; have a0 := hA.cell 0; have a1 := hA.cell 1; have a2 := hA.cell 2; have b0 := hP.cell 0; have b1 := hP.cell 1; have b2 := hP.cell 2; have b3 := hP.cell 3; have b4 := hP.cell 4))
      | (go_at_call 95; ((with_reducible refine (HS.out _ _ (hT1.up hb4).bas).mono ?_); rintro e w5 ⟨rfl, hb5⟩; have hA := hA.up hb5; have hP := hP.up hb5; have hup := hup.trans hb5; have a0 := hA.cell 0; have a1 := hA.cell 1; have a2 := hA.cell 2; have b0 := hP.cell 0; have b1 := hP.cell 1; have b2 := hP.cell 2; have b3 := hP.cell 3; have b4 := hP.cell 4)))
  have iA := hA.inw; have iP := hP.inw
  clear hT1 hb3 hb4 hb5
  go_wp2_with fail
  refine (l_CopyB T r hb _ _ (hv.up hup)).mono ?_; rintro e w6 ⟨v3, rfl, hb6, hX2⟩
  have hX := hX2
  obtain ⟨_, A2, c2, rfl, _⟩ := hX
  have hA := hA.up hb6; have hP := hP.up hb6; have hup := hup.trans hb6
  have a0 := hA.cell 0; have a1 := hA.cell 1; have a2 := hA.cell 2; have iA := hA.inw
  have b0 := hP.cell 0; have b1 := hP.cell 1; have b2 := hP.cell 2; have b3 := hP.cell 3; have b4 := hP.cell 4; have iP := hP.inw
  clear hb6
  go_wp2_with fail
  have hX := Blk.new w6 42 #[.int .i64 T.first, .slice A2 T.n c2, .int .i64 r]
  have hA := hA.alloc (.cells #[.int .i64 T.first, .slice A2 T.n c2, .int .i64 r] 42)
  have hP := hP.alloc (.cells #[.int .i64 T.first, .slice A2 T.n c2, .int .i64 r] 42)
  have hup := hup.alloc (.cells #[.int .i64 T.first, .slice A2 T.n c2, .int .i64 r] 42)
  have hX2 := hX2.up (Up.alloc (Up.refl w6) (.cells #[.int .i64 T.first, .slice A2 T.n c2, .int .i64 r] 42))
  clear a0 a1 a2 b0 b1 b2 b3 b4 iA iP
  generalize w6.alloc (.cells #[.int .i64 T.first, .slice A2 T.n c2, .int .i64 r] 42) = w7 at *
  generalize w6.heap.size = B6 at *
  have a0 := hA.cell 0; have a1 := hA.cell 1; have a2 := hA.cell 2; have iA := hA.inw
  have b0 := hP.cell 0; have b1 := hP.cell 1; have b2 := hP.cell 2; have b3 := hP.cell 3; have b4 := hP.cell 4; have iP := hP.inw
  have x0 := hX.cell 0; have x1 := hX.cell 1; have x2 := hX.cell 2; have iX := hX.inw
  go_region_held3 (fun w' => w'.cell? ⟨B6, 0, none⟩ = some (.int .i64 T.first) ∧ w'.cell? ⟨B6, 1, none⟩ = some (.slice A2 T.n c2) ∧ w'.cell? ⟨B6, 2, none⟩ = some (.int .i64 r) ∧ w'.cell? ⟨B1, 0, none⟩ = some (.int .i64 p0) ∧ w'.cell? ⟨B1, 1, none⟩ = some (.int .i64 p1) ∧ w'.cell? ⟨B1, 2, none⟩ = some (.int .i64 p2) ∧ w'.cell? ⟨B1, 3, none⟩ = some (.int .i64 p3) ∧ w'.cell? ⟨B1, 4, none⟩ = some (.int .i64 p4)) ((repeat' apply And.intro) <;> go_simp)
    (first
      | (go_at_call 50; ((with_reducible refine (l_CopyPol _ _ _ _ _ _).mono ?_); rintro e w8 ⟨rfl, hb8⟩; have hb8 := (Up.drew (Up.refl w7)).trans hb8; have hA := hA.up hb8; have hP := hP.up hb8; have hX := hX.up hb8; have hup := hup.trans hb8; have hX2 := hX2.up hb8; have x0 := hX.cell 0; have x1 := hX.cell 1; have x2 := hX.cell 2; have b0 := hP.cell 0; have b1 := hP.cell 1; have b2 := hP.cell 2; have b3 := hP.cell 3; have b4 := hP.cell 4))
      | (go_at_call 96; ((with_reducible refine (HI.out _ _ hX2.bas).mono ?_); rintro e w9 ⟨rfl, hb9⟩; have hA := hA.up hb9; have hP := hP.up hb9; have hX := hX.up hb9; have hup := hup.trans hb9; have hX2 := hX2.up hb9; have x0 := hX.cell 0; have x1 := hX.cell 1; have x2 := hX.cell 2; have b0 := hP.cell 0; have b1 := hP.cell 1; have b2 := hP.cell 2; have b3 := hP.cell 3; have b4 := hP.cell 4)))
  clear hb8 hb9 b0 b1 b2 b3 b4 iP hP
  have a0 := hA.cell 0; have a1 := hA.cell 1; have a2 := hA.cell 2; have iA := hA.inw; have iX := hX.inw
  go_wp2_with fail
  go_region_held3 (fun w' => w'.cell? ⟨B6, 0, none⟩ = some (.int .i64 T.first) ∧ w'.cell? ⟨B6, 1, none⟩ = some (.slice A2 T.n c2) ∧ w'.cell? ⟨B6, 2, none⟩ = some (.int .i64 r) ∧ w'.cell? ⟨w.heap.size, 0, none⟩ = some (.int .i64 T.first) ∧ w'.cell? ⟨w.heap.size, 1, none⟩ = some (.slice A T.n c) ∧ w'.cell? ⟨w.heap.size, 2, none⟩ = some (.int .i64 r)) ((repeat' apply And.intro) <;> go_simp)
    (first
      | (go_at_call 49; ((with_reducible refine (l_CopyB T r hb _ _ (hv.up (hup.trans (by repeat' (first | (with_reducible exact Up.refl _) | (with_reducible assumption) | (with_reducible refine Up.alloc ?_ _) | (with_reducible refine Up.drew ?_) | (with_reducible refine Up.grow ?_ _) | (with_reducible refine Up.setCell ?_ (by (try simp); (try omega)) _)))))).mono ?_); rintro e w10 ⟨v5, rfl, hb10, hT3⟩; have hb10 := (Up.drew (Up.refl w9)).trans hb10; have hA := hA.up hb10; have hX := hX.up hb10; have hup := hup.trans hb10; have hX2 := hX2.up hb10; have a0 := hA.cell 0; have a1 := hA.cell 1; have a2 := hA.cell 2; have x0 := hX.cell 0; have x1 := hX.cell 1; have x2 := hX.cell 2))
      | (go_at_call 52; ((with_reducible refine (l_EqB T r _ _ _ hX2.bas hT3.bas).mono ?_); rintro e w11 ⟨rfl, hb11⟩; have hA := hA.up hb11; have hX := hX.up hb11; have hup := hup.trans hb11; have a0 := hA.cell 0; have a1 := hA.cell 1; have a2 := hA.cell 2; have x0 := hX.cell 0; have x1 := hX.cell 1; have x2 := hX.cell 2)))
  go_wp2_with fail
  go_ret
  exact ⟨rfl, hup⟩
set_option maxRecDepth 100000 in
set_option maxHeartbeats 4000000 in
theorem l_KeptYears (T : Tab) (r : Int) (A : Option Addr) (c : Nat) (hn : T.n ≤ c) (hc : c ≤ 9223372036854775807) (p0 p1 p2 p3 p4 p5 : Int) (w : World) (hI : Ints w A T.n T.f) (q1 q2 : Int)
    (HS : Hid (∀ v w, BasAt w T r v → Calls Try.prog 53 #[v, .agg #[.int .i64 (p0), .int .i64 (p1), .int .i64 (p2), .int .i64 (p3), .int .i64 (p4)], .int .i64 p5] w (Ret w (.tuple #[.int .i64 q1, .int .i64 q2])))) (HI : Hid (∀ v w, BasAt w T r v → Calls Try.prog 54 #[v, .agg #[.int .i64 (p0), .int .i64 (p1), .int .i64 (p2), .int .i64 (p3), .int .i64 (p4)], .int .i64 p5] w (Ret w (.tuple #[.int .i64 q1, .int .i64 q2])))) :
    Calls Try.prog 8 #[.agg #[.int .i64 T.first, .slice A T.n c, .int .i64 r], .agg #[.int .i64 (p0), .int .i64 (p1), .int .i64 (p2), .int .i64 (p3), .int .i64 (p4)], .int .i64 p5] w (Ret w (.bool true)) := by
  by_cases hb : T.n ≤ 1048576
  case neg =>
    have HZ1 : ∀ w, Calls Try.prog 47 #[.agg #[.int .i64 T.first, .slice A T.n c, .int .i64 r], .int .i64 1048576] w (Ret w (.int .i64 (-1))) := fun w => by have h := l_SzB T r A c (by omega) 1048576 (by omega) (by omega) w; rwa [if_pos (by omega)] at h
    replace HZ1 := Lib.hid HZ1
    go_enter Try.func8, Try.ntmps8
    go_wp2_with (go_at_call 47; refine (HZ1.out _).mono ?_; rintro e w' ⟨rfl, hb⟩; first | (obtain ⟨x, rfl⟩ := Grow.on x hb) | (obtain ⟨x, rfl⟩ := Grow.mk' hb))
    go_ret
    exact ⟨rfl, (by repeat' (first | (with_reducible exact Up.refl _) | (with_reducible assumption) | (with_reducible refine Up.alloc ?_ _) | (with_reducible refine Up.drew ?_) | (with_reducible refine Up.grow ?_ _) | (with_reducible refine Up.setCell ?_ (by (try simp); (try omega)) _)))⟩
  have HZ1 : ∀ w, Calls Try.prog 47 #[.agg #[.int .i64 T.first, .slice A T.n c, .int .i64 r], .int .i64 1048576] w (Ret w (.int .i64 (1048576 - T.n))) := fun w => by have h := l_SzB T r A c (by omega) 1048576 (by omega) (by omega) w; rwa [if_neg (by omega)] at h
  replace HZ1 := Lib.hid HZ1
  have hv : BasAt w T r (.agg #[.int .i64 T.first, .slice A T.n c, .int .i64 r]) := ⟨A, c, rfl, hn, hc, hb, hI⟩
  clear hI
  go_enter Try.func8, Try.ntmps8
  go_wp2_with fail
  refine (HZ1.out _).mono ?_; rintro e w1 ⟨rfl, hs1⟩
  have hA : Blk w1 w.heap.size 36 _ := ((Blk.new _ _ _).alloc _).up hs1
  have hP : Blk w1 (w.heap.size + 1) 38 #[.int .i64 p0, .int .i64 p1, .int .i64 p2, .int .i64 p3, .int .i64 p4] := by
    have h := (Blk.new (w.alloc (.cells #[.int .i64 T.first, .slice A T.n c, .int .i64 r] 36)) 38 #[.int .i64 p0, .int .i64 p1, .int .i64 p2, .int .i64 p3, .int .i64 p4]).up hs1
    simpa only [World.size_alloc] using h
  have hup : Up w w1 := (Up.alloc (Up.alloc (Up.refl _) _) _).trans hs1
  clear hs1
  generalize w.heap.size + 1 = B1 at *
  have a0 := hA.cell 0; have a1 := hA.cell 1; have a2 := hA.cell 2; have iA := hA.inw
  have b0 := hP.cell 0; have b1 := hP.cell 1; have b2 := hP.cell 2; have b3 := hP.cell 3; have b4 := hP.cell 4; have iP := hP.inw
  go_wp2_with fail
  go_region_held3 (fun w' => w'.cell? ⟨w.heap.size, 0, none⟩ = some (.int .i64 T.first) ∧ w'.cell? ⟨w.heap.size, 1, none⟩ = some (.slice A T.n c) ∧ w'.cell? ⟨w.heap.size, 2, none⟩ = some (.int .i64 r) ∧ w'.cell? ⟨B1, 0, none⟩ = some (.int .i64 p0) ∧ w'.cell? ⟨B1, 1, none⟩ = some (.int .i64 p1) ∧ w'.cell? ⟨B1, 2, none⟩ = some (.int .i64 p2) ∧ w'.cell? ⟨B1, 3, none⟩ = some (.int .i64 p3) ∧ w'.cell? ⟨B1, 4, none⟩ = some (.int .i64 p4)) ((repeat' apply And.intro) <;> go_simp)
    (first
      | (go_at_call 49; ((with_reducible refine (l_CopyB T r hb _ _ (hv.up (hup.trans (by repeat' (first | (with_reducible exact Up.refl _) | (with_reducible assumption) | (with_reducible refine Up.alloc ?_ _) | (with_reducible refine Up.drew ?_) | (with_reducible refine Up.grow ?_ _) | (with_reducible refine Up.setCell ?_ (by (try simp); (try omega)) _)))))).mono ?_); rintro e w3 ⟨v1, rfl, hb3, hT1⟩; have hb3 := (Up.drew (Up.refl w1)).trans hb3; have hA := hA.up hb3; have hP := hP.up hb3; have hup := hup.trans hb3; have a0 := hA.cell 0; have a1 := hA.cell 1; have a2 := hA.cell 2; have b0 := hP.cell 0; have b1 := hP.cell 1; have b2 := hP.cell 2; have b3 := hP.cell 3; have b4 := hP.cell 4))
      | (go_at_call 50; ((with_reducible refine (l_CopyPol _ _ _ _ _ _).mono ?_); rintro e w4 ⟨rfl, hb4⟩; have hA := hA.up hb4; have hP := hP.up hb4; have hup := hup.trans hb4; have a0 := hA.cell 0; have a1 := hA.cell 1; have a2 := hA.cell 2; have b0 := hP.cell 0; have b1 := hP.cell 1; have b2 := hP.cell 2; have b3 := hP.cell 3; have b4 := hP.cell 4))
      | (go_at_call 53; ((with_reducible refine (HS.out _ _ (hT1.up hb4).bas).mono ?_); rintro e w5 ⟨rfl, hb5⟩; have hA := hA.up hb5; have hP := hP.up hb5; have hup := hup.trans hb5; have a0 := hA.cell 0; have a1 := hA.cell 1; have a2 := hA.cell 2; have b0 := hP.cell 0; have b1 := hP.cell 1; have b2 := hP.cell 2; have b3 := hP.cell 3; have b4 := hP.cell 4)))
  have iA := hA.inw; have iP := hP.inw
  clear hT1 hb3 hb4 hb5
  go_wp2_with fail
  refine (l_CopyB T r hb _ _ (hv.up hup)).mono ?_; rintro e w6 ⟨v3, rfl, hb6, hX2⟩
  have hX := hX2
  obtain ⟨_, A2, c2, rfl, _⟩ := hX
  have hA := hA.up hb6; have hP := hP.up hb6; have hup := hup.trans hb6
  have a0 := hA.cell 0; have a1 := hA.cell 1; have a2 := hA.cell 2; have iA := hA.inw
  have b0 := hP.cell 0; have b1 := hP.cell 1; have b2 := hP.cell 2; have b3 := hP.cell 3; have b4 := hP.cell 4; have iP := hP.inw
  clear hb6
  go_wp2_with fail
  have hX := Blk.new w6 42 #[.int .i64 T.first, .slice A2 T.n c2, .int .i64 r]
  have hA := hA.alloc (.cells #[.int .i64 T.first, .slice A2 T.n c2, .int .i64 r] 42)
  have hP := hP.alloc (.cells #[.int .i64 T.first, .slice A2 T.n c2, .int .i64 r] 42)
  have hup := hup.alloc (.cells #[.int .i64 T.first, .slice A2 T.n c2, .int .i64 r] 42)
  have hX2 := hX2.up (Up.alloc (Up.refl w6) (.cells #[.int .i64 T.first, .slice A2 T.n c2, .int .i64 r] 42))
  clear a0 a1 a2 b0 b1 b2 b3 b4 iA iP
  generalize w6.alloc (.cells #[.int .i64 T.first, .slice A2 T.n c2, .int .i64 r] 42) = w7 at *
  generalize w6.heap.size = B6 at *
  have a0 := hA.cell 0; have a1 := hA.cell 1; have a2 := hA.cell 2; have iA := hA.inw
  have b0 := hP.cell 0; have b1 := hP.cell 1; have b2 := hP.cell 2; have b3 := hP.cell 3; have b4 := hP.cell 4; have iP := hP.inw
  have x0 := hX.cell 0; have x1 := hX.cell 1; have x2 := hX.cell 2; have iX := hX.inw
  go_region_held3 (fun w' => w'.cell? ⟨B6, 0, none⟩ = some (.int .i64 T.first) ∧ w'.cell? ⟨B6, 1, none⟩ = some (.slice A2 T.n c2) ∧ w'.cell? ⟨B6, 2, none⟩ = some (.int .i64 r) ∧ w'.cell? ⟨B1, 0, none⟩ = some (.int .i64 p0) ∧ w'.cell? ⟨B1, 1, none⟩ = some (.int .i64 p1) ∧ w'.cell? ⟨B1, 2, none⟩ = some (.int .i64 p2) ∧ w'.cell? ⟨B1, 3, none⟩ = some (.int .i64 p3) ∧ w'.cell? ⟨B1, 4, none⟩ = some (.int .i64 p4)) ((repeat' apply And.intro) <;> go_simp)
    (first
      | (go_at_call 50; ((with_reducible refine (l_CopyPol _ _ _ _ _ _).mono ?_); rintro e w8 ⟨rfl, hb8⟩; have hb8 := (Up.drew (Up.refl w7)).trans hb8; have hA := hA.up hb8; have hP := hP.up hb8; have hX := hX.up hb8; have hup := hup.trans hb8; have hX2 := hX2.up hb8; have x0 := hX.cell 0; have x1 := hX.cell 1; have x2 := hX.cell 2; have b0 := hP.cell 0; have b1 := hP.cell 1; have b2 := hP.cell 2; have b3 := hP.cell 3; have b4 := hP.cell 4))
      | (go_at_call 54; ((with_reducible refine (HI.out _ _ hX2.bas).mono ?_); rintro e w9 ⟨rfl, hb9⟩; have hA := hA.up hb9; have hP := hP.up hb9; have hX := hX.up hb9; have hup := hup.trans hb9; have hX2 := hX2.up hb9; have x0 := hX.cell 0; have x1 := hX.cell 1; have x2 := hX.cell 2; have b0 := hP.cell 0; have b1 := hP.cell 1; have b2 := hP.cell 2; have b3 := hP.cell 3; have b4 := hP.cell 4)))
  clear hb8 hb9 b0 b1 b2 b3 b4 iP hP
  have a0 := hA.cell 0; have a1 := hA.cell 1; have a2 := hA.cell 2; have iA := hA.inw; have iX := hX.inw
  go_wp2_with fail
  go_region_held3 (fun w' => w'.cell? ⟨B6, 0, none⟩ = some (.int .i64 T.first) ∧ w'.cell? ⟨B6, 1, none⟩ = some (.slice A2 T.n c2) ∧ w'.cell? ⟨B6, 2, none⟩ = some (.int .i64 r) ∧ w'.cell? ⟨w.heap.size, 0, none⟩ = some (.int .i64 T.first) ∧ w'.cell? ⟨w.heap.size, 1, none⟩ = some (.slice A T.n c) ∧ w'.cell? ⟨w.heap.size, 2, none⟩ = some (.int .i64 r)) ((repeat' apply And.intro) <;> go_simp)
    (first
      | (go_at_call 49; ((with_reducible refine (l_CopyB T r hb _ _ (hv.up (hup.trans (by repeat' (first | (with_reducible exact Up.refl _) | (with_reducible assumption) | (with_reducible refine Up.alloc ?_ _) | (with_reducible refine Up.drew ?_) | (with_reducible refine Up.grow ?_ _) | (with_reducible refine Up.setCell ?_ (by (try simp); (try omega)) _)))))).mono ?_); rintro e w10 ⟨v5, rfl, hb10, hT3⟩; have hb10 := (Up.drew (Up.refl w9)).trans hb10; have hA := hA.up hb10; have hX := hX.up hb10; have hup := hup.trans hb10; have hX2 := hX2.up hb10; have a0 := hA.cell 0; have a1 := hA.cell 1; have a2 := hA.cell 2; have x0 := hX.cell 0; have x1 := hX.cell 1; have x2 := hX.cell 2))
      | (go_at_call 52; ((with_reducible refine (l_EqB T r _ _ _ hX2.bas hT3.bas).mono ?_); rintro e w11 ⟨rfl, hb11⟩; have hA := hA.up hb11; have hX := hX.up hb11; have hup := hup.trans hb11; have a0 := hA.cell 0; have a1 := hA.cell 1; have a2 := hA.cell 2; have x0 := hX.cell 0; have x1 := hX.cell 1; have x2 := hX.cell 2)))
  go_wp2_with fail
  go_ret
  exact ⟨rfl, hup⟩
set_option maxRecDepth 100000 in
set_option maxHeartbeats 4000000 in
theorem l_LoanLimit (T : Tab) (r : Int) (A : Option Addr) (c : Nat) (hn : T.n ≤ c) (hc : c ≤ 9223372036854775807) (p0 p1 p2 p3 p4 p5 : Int) (w : World) (hI : Ints w A T.n T.f) (q1 q2 : Int)
    (HS : Hid (∀ v w, BasAt w T r v → Calls Try.prog 91 #[v, .agg #[.int .i64 (p0), .int .i64 (p1), .int .i64 (p2), .int .i64 (p3), .int .i64 (p4)], .int .i64 p5] w (Ret w (.tuple #[.int .i64 q1, .int .i64 q2])))) (HI : Hid (∀ v w, BasAt w T r v → Calls Try.prog 92 #[v, .agg #[.int .i64 (p0), .int .i64 (p1), .int .i64 (p2), .int .i64 (p3), .int .i64 (p4)], .int .i64 p5] w (Ret w (.tuple #[.int .i64 q1, .int .i64 q2])))) :
    Calls Try.prog 22 #[.agg #[.int .i64 T.first, .slice A T.n c, .int .i64 r], .agg #[.int .i64 (p0), .int .i64 (p1), .int .i64 (p2), .int .i64 (p3), .int .i64 (p4)], .int .i64 p5] w (Ret w (.bool true)) := by
  by_cases hb : T.n ≤ 1048576
  case neg =>
    have HZ1 : ∀ w, Calls Try.prog 47 #[.agg #[.int .i64 T.first, .slice A T.n c, .int .i64 r], .int .i64 1048576] w (Ret w (.int .i64 (-1))) := fun w => by have h := l_SzB T r A c (by omega) 1048576 (by omega) (by omega) w; rwa [if_pos (by omega)] at h
    replace HZ1 := Lib.hid HZ1
    go_enter Try.func22, Try.ntmps22
    go_wp2_with (go_at_call 47; refine (HZ1.out _).mono ?_; rintro e w' ⟨rfl, hb⟩; first | (obtain ⟨x, rfl⟩ := Grow.on x hb) | (obtain ⟨x, rfl⟩ := Grow.mk' hb))
    go_ret
    exact ⟨rfl, (by repeat' (first | (with_reducible exact Up.refl _) | (with_reducible assumption) | (with_reducible refine Up.alloc ?_ _) | (with_reducible refine Up.drew ?_) | (with_reducible refine Up.grow ?_ _) | (with_reducible refine Up.setCell ?_ (by (try simp); (try omega)) _)))⟩
  have HZ1 : ∀ w, Calls Try.prog 47 #[.agg #[.int .i64 T.first, .slice A T.n c, .int .i64 r], .int .i64 1048576] w (Ret w (.int .i64 (1048576 - T.n))) := fun w => by have h := l_SzB T r A c (by omega) 1048576 (by omega) (by omega) w; rwa [if_neg (by omega)] at h
  replace HZ1 := Lib.hid HZ1
  have hv : BasAt w T r (.agg #[.int .i64 T.first, .slice A T.n c, .int .i64 r]) := ⟨A, c, rfl, hn, hc, hb, hI⟩
  clear hI
  go_enter Try.func22, Try.ntmps22
  go_wp2_with fail
  refine (HZ1.out _).mono ?_; rintro e w1 ⟨rfl, hs1⟩
  have hA : Blk w1 w.heap.size 36 _ := ((Blk.new _ _ _).alloc _).up hs1
  have hP : Blk w1 (w.heap.size + 1) 38 #[.int .i64 p0, .int .i64 p1, .int .i64 p2, .int .i64 p3, .int .i64 p4] := by
    have h := (Blk.new (w.alloc (.cells #[.int .i64 T.first, .slice A T.n c, .int .i64 r] 36)) 38 #[.int .i64 p0, .int .i64 p1, .int .i64 p2, .int .i64 p3, .int .i64 p4]).up hs1
    simpa only [World.size_alloc] using h
  have hup : Up w w1 := (Up.alloc (Up.alloc (Up.refl _) _) _).trans hs1
  clear hs1
  generalize w.heap.size + 1 = B1 at *
  have a0 := hA.cell 0; have a1 := hA.cell 1; have a2 := hA.cell 2; have iA := hA.inw
  have b0 := hP.cell 0; have b1 := hP.cell 1; have b2 := hP.cell 2; have b3 := hP.cell 3; have b4 := hP.cell 4; have iP := hP.inw
  go_wp2_with fail
  go_region_held3 (fun w' => w'.cell? ⟨w.heap.size, 0, none⟩ = some (.int .i64 T.first) ∧ w'.cell? ⟨w.heap.size, 1, none⟩ = some (.slice A T.n c) ∧ w'.cell? ⟨w.heap.size, 2, none⟩ = some (.int .i64 r) ∧ w'.cell? ⟨B1, 0, none⟩ = some (.int .i64 p0) ∧ w'.cell? ⟨B1, 1, none⟩ = some (.int .i64 p1) ∧ w'.cell? ⟨B1, 2, none⟩ = some (.int .i64 p2) ∧ w'.cell? ⟨B1, 3, none⟩ = some (.int .i64 p3) ∧ w'.cell? ⟨B1, 4, none⟩ = some (.int .i64 p4)) ((repeat' apply And.intro) <;> go_simp)
    (first
      | (go_at_call 49; ((with_reducible refine (l_CopyB T r hb _ _ (hv.up (hup.trans (by repeat' (first | (with_reducible exact Up.refl _) | (with_reducible assumption) | (with_reducible refine Up.alloc ?_ _) | (with_reducible refine Up.drew ?_) | (with_reducible refine Up.grow ?_ _) | (with_reducible refine Up.setCell ?_ (by (try simp); (try omega)) _)))))).mono ?_); rintro e w3 ⟨v1, rfl, hb3, hT1⟩; have hb3 := (Up.drew (Up.refl w1)).trans hb3; have hA := hA.up hb3; have hP := hP.up hb3; have hup := hup.trans hb3; have a0 := hA.cell 0; have a1 := hA.cell 1; have a2 := hA.cell 2; have b0 := hP.cell 0; have b1 := hP.cell 1; have b2 := hP.cell 2; have b3 := hP.cell 3; have b4 := hP.cell 4))
      | (go_at_call 50; ((with_reducible refine (l_CopyPol _ _ _ _ _ _).mono ?_); rintro e w4 ⟨rfl, hb4⟩; have hA := hA.up hb4; have hP := hP.up hb4; have hup := hup.trans hb4; have a0 := hA.cell 0; have a1 := hA.cell 1; have a2 := hA.cell 2; have b0 := hP.cell 0; have b1 := hP.cell 1; have b2 := hP.cell 2; have b3 := hP.cell 3; have b4 := hP.cell 4))
      | (go_at_call 91; ((with_reducible refine (HS.out _ _ (hT1.up hb4).bas).mono ?_); rintro e w5 ⟨rfl, hb5⟩; have hA := hA.up hb5; have hP := hP.up hb5; have hup := hup.trans hb5; have a0 := hA.cell 0; have a1 := hA.cell 1; have a2 := hA.cell 2; have b0 := hP.cell 0; have b1 := hP.cell 1; have b2 := hP.cell 2; have b3 := hP.cell 3; have b4 := hP.cell 4)))
  have iA := hA.inw; have iP := hP.inw
  clear hT1 hb3 hb4 hb5
  go_wp2_with fail
  refine (l_CopyB T r hb _ _ (hv.up hup)).mono ?_; rintro e w6 ⟨v3, rfl, hb6, hX2⟩
  have hX := hX2
  obtain ⟨_, A2, c2, rfl, _⟩ := hX
  have hA := hA.up hb6; have hP := hP.up hb6; have hup := hup.trans hb6
  have a0 := hA.cell 0; have a1 := hA.cell 1; have a2 := hA.cell 2; have iA := hA.inw
  have b0 := hP.cell 0; have b1 := hP.cell 1; have b2 := hP.cell 2; have b3 := hP.cell 3; have b4 := hP.cell 4; have iP := hP.inw
  clear hb6
  go_wp2_with fail
  have hX := Blk.new w6 42 #[.int .i64 T.first, .slice A2 T.n c2, .int .i64 r]
  have hA := hA.alloc (.cells #[.int .i64 T.first, .slice A2 T.n c2, .int .i64 r] 42)
  have hP := hP.alloc (.cells #[.int .i64 T.first, .slice A2 T.n c2, .int .i64 r] 42)
  have hup := hup.alloc (.cells #[.int .i64 T.first, .slice A2 T.n c2, .int .i64 r] 42)
  have hX2 := hX2.up (Up.alloc (Up.refl w6) (.cells #[.int .i64 T.first, .slice A2 T.n c2, .int .i64 r] 42))
  clear a0 a1 a2 b0 b1 b2 b3 b4 iA iP
  generalize w6.alloc (.cells #[.int .i64 T.first, .slice A2 T.n c2, .int .i64 r] 42) = w7 at *
  generalize w6.heap.size = B6 at *
  have a0 := hA.cell 0; have a1 := hA.cell 1; have a2 := hA.cell 2; have iA := hA.inw
  have b0 := hP.cell 0; have b1 := hP.cell 1; have b2 := hP.cell 2; have b3 := hP.cell 3; have b4 := hP.cell 4; have iP := hP.inw
  have x0 := hX.cell 0; have x1 := hX.cell 1; have x2 := hX.cell 2; have iX := hX.inw
  go_region_held3 (fun w' => w'.cell? ⟨B6, 0, none⟩ = some (.int .i64 T.first) ∧ w'.cell? ⟨B6, 1, none⟩ = some (.slice A2 T.n c2) ∧ w'.cell? ⟨B6, 2, none⟩ = some (.int .i64 r) ∧ w'.cell? ⟨B1, 0, none⟩ = some (.int .i64 p0) ∧ w'.cell? ⟨B1, 1, none⟩ = some (.int .i64 p1) ∧ w'.cell? ⟨B1, 2, none⟩ = some (.int .i64 p2) ∧ w'.cell? ⟨B1, 3, none⟩ = some (.int .i64 p3) ∧ w'.cell? ⟨B1, 4, none⟩ = some (.int .i64 p4)) ((repeat' apply And.intro) <;> go_simp)
    (first
      | (go_at_call 50; ((with_reducible refine (l_CopyPol _ _ _ _ _ _).mono ?_); rintro e w8 ⟨rfl, hb8⟩; have hb8 := (Up.drew (Up.refl w7)).trans hb8; have hA := hA.up hb8; have hP := hP.up hb8; have hX := hX.up hb8; have hup := hup.trans hb8; have hX2 := hX2.up hb8; have x0 := hX.cell 0; have x1 := hX.cell 1; have x2 := hX.cell 2; have b0 := hP.cell 0; have b1 := hP.cell 1; have b2 := hP.cell 2; have b3 := hP.cell 3; have b4 := hP.cell 4))
      | (go_at_call 92; ((with_reducible refine (HI.out _ _ hX2.bas).mono ?_); rintro e w9 ⟨rfl, hb9⟩; have hA := hA.up hb9; have hP := hP.up hb9; have hX := hX.up hb9; have hup := hup.trans hb9; have hX2 := hX2.up hb9; have x0 := hX.cell 0; have x1 := hX.cell 1; have x2 := hX.cell 2; have b0 := hP.cell 0; have b1 := hP.cell 1; have b2 := hP.cell 2; have b3 := hP.cell 3; have b4 := hP.cell 4)))
  clear hb8 hb9 b0 b1 b2 b3 b4 iP hP
  have a0 := hA.cell 0; have a1 := hA.cell 1; have a2 := hA.cell 2; have iA := hA.inw; have iX := hX.inw
  go_wp2_with fail
  go_region_held3 (fun w' => w'.cell? ⟨B6, 0, none⟩ = some (.int .i64 T.first) ∧ w'.cell? ⟨B6, 1, none⟩ = some (.slice A2 T.n c2) ∧ w'.cell? ⟨B6, 2, none⟩ = some (.int .i64 r) ∧ w'.cell? ⟨w.heap.size, 0, none⟩ = some (.int .i64 T.first) ∧ w'.cell? ⟨w.heap.size, 1, none⟩ = some (.slice A T.n c) ∧ w'.cell? ⟨w.heap.size, 2, none⟩ = some (.int .i64 r)) ((repeat' apply And.intro) <;> go_simp)
    (first
      | (go_at_call 49; ((with_reducible refine (l_CopyB T r hb _ _ (hv.up (hup.trans (by repeat' (first | (with_reducible exact Up.refl _) | (with_reducible assumption) | (with_reducible refine Up.alloc ?_ _) | (with_reducible refine Up.drew ?_) | (with_reducible refine Up.grow ?_ _) | (with_reducible refine Up.setCell ?_ (by (try simp); (try omega)) _)))))).mono ?_); rintro e w10 ⟨v5, rfl, hb10, hT3⟩; have hb10 := (Up.drew (Up.refl w9)).trans hb10; have hA := hA.up hb10; have hX := hX.up hb10; have hup := hup.trans hb10; have hX2 := hX2.up hb10; have a0 := hA.cell 0; have a1 := hA.cell 1; have a2 := hA.cell 2; have x0 := hX.cell 0; have x1 := hX.cell 1; have x2 := hX.cell 2))
      | (go_at_call 52; ((with_reducible refine (l_EqB T r _ _ _ hX2.bas hT3.bas).mono ?_); rintro e w11 ⟨rfl, hb11⟩; have hA := hA.up hb11; have hX := hX.up hb11; have hup := hup.trans hb11; have a0 := hA.cell 0; have a1 := hA.cell 1; have a2 := hA.cell 2; have x0 := hX.cell 0; have x1 := hX.cell 1; have x2 := hX.cell 2)))
  go_wp2_with fail
  go_ret
  exact ⟨rfl, hup⟩
set_option maxRecDepth 100000 in
set_option maxHeartbeats 4000000 in
theorem l_LeavingLoss (T : Tab) (r : Int) (A : Option Addr) (c : Nat) (hn : T.n ≤ c) (hc : c ≤ 9223372036854775807) (p0 p1 p2 p3 p4 p5 : Int) (w : World) (hI : Ints w A T.n T.f) (q1 q2 : Int)
    (HS : Hid (∀ v w, BasAt w T r v → Calls Try.prog 87 #[v, .agg #[.int .i64 (p0), .int .i64 (p1), .int .i64 (p2), .int .i64 (p3), .int .i64 (p4)], .int .i64 p5] w (Ret w (.tuple #[.int .i64 q1, .int .i64 q2])))) (HI : Hid (∀ v w, BasAt w T r v → Calls Try.prog 88 #[v, .agg #[.int .i64 (p0), .int .i64 (p1), .int .i64 (p2), .int .i64 (p3), .int .i64 (p4)], .int .i64 p5] w (Ret w (.tuple #[.int .i64 q1, .int .i64 q2])))) :
    Calls Try.prog 20 #[.agg #[.int .i64 T.first, .slice A T.n c, .int .i64 r], .agg #[.int .i64 (p0), .int .i64 (p1), .int .i64 (p2), .int .i64 (p3), .int .i64 (p4)], .int .i64 p5] w (Ret w (.bool true)) := by
  by_cases hb : T.n ≤ 1048576
  case neg =>
    have HZ1 : ∀ w, Calls Try.prog 47 #[.agg #[.int .i64 T.first, .slice A T.n c, .int .i64 r], .int .i64 1048576] w (Ret w (.int .i64 (-1))) := fun w => by have h := l_SzB T r A c (by omega) 1048576 (by omega) (by omega) w; rwa [if_pos (by omega)] at h
    replace HZ1 := Lib.hid HZ1
    go_enter Try.func20, Try.ntmps20
    go_wp2_with (go_at_call 47; refine (HZ1.out _).mono ?_; rintro e w' ⟨rfl, hb⟩; first | (obtain ⟨x, rfl⟩ := Grow.on x hb) | (obtain ⟨x, rfl⟩ := Grow.mk' hb))
    go_ret
    exact ⟨rfl, (by repeat' (first | (with_reducible exact Up.refl _) | (with_reducible assumption) | (with_reducible refine Up.alloc ?_ _) | (with_reducible refine Up.drew ?_) | (with_reducible refine Up.grow ?_ _) | (with_reducible refine Up.setCell ?_ (by (try simp); (try omega)) _)))⟩
  have HZ1 : ∀ w, Calls Try.prog 47 #[.agg #[.int .i64 T.first, .slice A T.n c, .int .i64 r], .int .i64 1048576] w (Ret w (.int .i64 (1048576 - T.n))) := fun w => by have h := l_SzB T r A c (by omega) 1048576 (by omega) (by omega) w; rwa [if_neg (by omega)] at h
  replace HZ1 := Lib.hid HZ1
  have hv : BasAt w T r (.agg #[.int .i64 T.first, .slice A T.n c, .int .i64 r]) := ⟨A, c, rfl, hn, hc, hb, hI⟩
  clear hI
  go_enter Try.func20, Try.ntmps20
  go_wp2_with fail
  refine (HZ1.out _).mono ?_; rintro e w1 ⟨rfl, hs1⟩
  have hA : Blk w1 w.heap.size 36 _ := ((Blk.new _ _ _).alloc _).up hs1
  have hP : Blk w1 (w.heap.size + 1) 38 #[.int .i64 p0, .int .i64 p1, .int .i64 p2, .int .i64 p3, .int .i64 p4] := by
    have h := (Blk.new (w.alloc (.cells #[.int .i64 T.first, .slice A T.n c, .int .i64 r] 36)) 38 #[.int .i64 p0, .int .i64 p1, .int .i64 p2, .int .i64 p3, .int .i64 p4]).up hs1
    simpa only [World.size_alloc] using h
  have hup : Up w w1 := (Up.alloc (Up.alloc (Up.refl _) _) _).trans hs1
  clear hs1
  generalize w.heap.size + 1 = B1 at *
  have a0 := hA.cell 0; have a1 := hA.cell 1; have a2 := hA.cell 2; have iA := hA.inw
  have b0 := hP.cell 0; have b1 := hP.cell 1; have b2 := hP.cell 2; have b3 := hP.cell 3; have b4 := hP.cell 4; have iP := hP.inw
  go_wp2_with fail
  go_region_held3 (fun w' => w'.cell? ⟨w.heap.size, 0, none⟩ = some (.int .i64 T.first) ∧ w'.cell? ⟨w.heap.size, 1, none⟩ = some (.slice A T.n c) ∧ w'.cell? ⟨w.heap.size, 2, none⟩ = some (.int .i64 r) ∧ w'.cell? ⟨B1, 0, none⟩ = some (.int .i64 p0) ∧ w'.cell? ⟨B1, 1, none⟩ = some (.int .i64 p1) ∧ w'.cell? ⟨B1, 2, none⟩ = some (.int .i64 p2) ∧ w'.cell? ⟨B1, 3, none⟩ = some (.int .i64 p3) ∧ w'.cell? ⟨B1, 4, none⟩ = some (.int .i64 p4)) ((repeat' apply And.intro) <;> go_simp)
    (first
      | (go_at_call 49; ((with_reducible refine (l_CopyB T r hb _ _ (hv.up (hup.trans (by repeat' (first | (with_reducible exact Up.refl _) | (with_reducible assumption) | (with_reducible refine Up.alloc ?_ _) | (with_reducible refine Up.drew ?_) | (with_reducible refine Up.grow ?_ _) | (with_reducible refine Up.setCell ?_ (by (try simp); (try omega)) _)))))).mono ?_); rintro e w3 ⟨v1, rfl, hb3, hT1⟩; have hb3 := (Up.drew (Up.refl w1)).trans hb3; have hA := hA.up hb3; have hP := hP.up hb3; have hup := hup.trans hb3; have a0 := hA.cell 0; have a1 := hA.cell 1; have a2 := hA.cell 2; have b0 := hP.cell 0; have b1 := hP.cell 1; have b2 := hP.cell 2; have b3 := hP.cell 3; have b4 := hP.cell 4))
      | (go_at_call 50; ((with_reducible refine (l_CopyPol _ _ _ _ _ _).mono ?_); rintro e w4 ⟨rfl, hb4⟩; have hA := hA.up hb4; have hP := hP.up hb4; have hup := hup.trans hb4; have a0 := hA.cell 0; have a1 := hA.cell 1; have a2 := hA.cell 2; have b0 := hP.cell 0; have b1 := hP.cell 1; have b2 := hP.cell 2; have b3 := hP.cell 3; have b4 := hP.cell 4))
      | (go_at_call 87; ((with_reducible refine (HS.out _ _ (hT1.up hb4).bas).mono ?_); rintro e w5 ⟨rfl, hb5⟩; have hA := hA.up hb5; have hP := hP.up hb5; have hup := hup.trans hb5; have a0 := hA.cell 0; have a1 := hA.cell 1; have a2 := hA.cell 2; have b0 := hP.cell 0; have b1 := hP.cell 1; have b2 := hP.cell 2; have b3 := hP.cell 3; have b4 := hP.cell 4)))
  have iA := hA.inw; have iP := hP.inw
  clear hT1 hb3 hb4 hb5
  go_wp2_with fail
  refine (l_CopyB T r hb _ _ (hv.up hup)).mono ?_; rintro e w6 ⟨v3, rfl, hb6, hX2⟩
  have hX := hX2
  obtain ⟨_, A2, c2, rfl, _⟩ := hX
  have hA := hA.up hb6; have hP := hP.up hb6; have hup := hup.trans hb6
  have a0 := hA.cell 0; have a1 := hA.cell 1; have a2 := hA.cell 2; have iA := hA.inw
  have b0 := hP.cell 0; have b1 := hP.cell 1; have b2 := hP.cell 2; have b3 := hP.cell 3; have b4 := hP.cell 4; have iP := hP.inw
  clear hb6
  go_wp2_with fail
  have hX := Blk.new w6 42 #[.int .i64 T.first, .slice A2 T.n c2, .int .i64 r]
  have hA := hA.alloc (.cells #[.int .i64 T.first, .slice A2 T.n c2, .int .i64 r] 42)
  have hP := hP.alloc (.cells #[.int .i64 T.first, .slice A2 T.n c2, .int .i64 r] 42)
  have hup := hup.alloc (.cells #[.int .i64 T.first, .slice A2 T.n c2, .int .i64 r] 42)
  have hX2 := hX2.up (Up.alloc (Up.refl w6) (.cells #[.int .i64 T.first, .slice A2 T.n c2, .int .i64 r] 42))
  clear a0 a1 a2 b0 b1 b2 b3 b4 iA iP
  generalize w6.alloc (.cells #[.int .i64 T.first, .slice A2 T.n c2, .int .i64 r] 42) = w7 at *
  generalize w6.heap.size = B6 at *
  have a0 := hA.cell 0; have a1 := hA.cell 1; have a2 := hA.cell 2; have iA := hA.inw
  have b0 := hP.cell 0; have b1 := hP.cell 1; have b2 := hP.cell 2; have b3 := hP.cell 3; have b4 := hP.cell 4; have iP := hP.inw
  have x0 := hX.cell 0; have x1 := hX.cell 1; have x2 := hX.cell 2; have iX := hX.inw
  go_region_held3 (fun w' => w'.cell? ⟨B6, 0, none⟩ = some (.int .i64 T.first) ∧ w'.cell? ⟨B6, 1, none⟩ = some (.slice A2 T.n c2) ∧ w'.cell? ⟨B6, 2, none⟩ = some (.int .i64 r) ∧ w'.cell? ⟨B1, 0, none⟩ = some (.int .i64 p0) ∧ w'.cell? ⟨B1, 1, none⟩ = some (.int .i64 p1) ∧ w'.cell? ⟨B1, 2, none⟩ = some (.int .i64 p2) ∧ w'.cell? ⟨B1, 3, none⟩ = some (.int .i64 p3) ∧ w'.cell? ⟨B1, 4, none⟩ = some (.int .i64 p4)) ((repeat' apply And.intro) <;> go_simp)
    (first
      | (go_at_call 50; ((with_reducible refine (l_CopyPol _ _ _ _ _ _).mono ?_); rintro e w8 ⟨rfl, hb8⟩; have hb8 := (Up.drew (Up.refl w7)).trans hb8; have hA := hA.up hb8; have hP := hP.up hb8; have hX := hX.up hb8; have hup := hup.trans hb8; have hX2 := hX2.up hb8; have x0 := hX.cell 0; have x1 := hX.cell 1; have x2 := hX.cell 2; have b0 := hP.cell 0; have b1 := hP.cell 1; have b2 := hP.cell 2; have b3 := hP.cell 3; have b4 := hP.cell 4))
      | (go_at_call 88; ((with_reducible refine (HI.out _ _ hX2.bas).mono ?_); rintro e w9 ⟨rfl, hb9⟩; have hA := hA.up hb9; have hP := hP.up hb9; have hX := hX.up hb9; have hup := hup.trans hb9; have hX2 := hX2.up hb9; have x0 := hX.cell 0; have x1 := hX.cell 1; have x2 := hX.cell 2; have b0 := hP.cell 0; have b1 := hP.cell 1; have b2 := hP.cell 2; have b3 := hP.cell 3; have b4 := hP.cell 4)))
  clear hb8 hb9 b0 b1 b2 b3 b4 iP hP
  have a0 := hA.cell 0; have a1 := hA.cell 1; have a2 := hA.cell 2; have iA := hA.inw; have iX := hX.inw
  go_wp2_with fail
  go_region_held3 (fun w' => w'.cell? ⟨B6, 0, none⟩ = some (.int .i64 T.first) ∧ w'.cell? ⟨B6, 1, none⟩ = some (.slice A2 T.n c2) ∧ w'.cell? ⟨B6, 2, none⟩ = some (.int .i64 r) ∧ w'.cell? ⟨w.heap.size, 0, none⟩ = some (.int .i64 T.first) ∧ w'.cell? ⟨w.heap.size, 1, none⟩ = some (.slice A T.n c) ∧ w'.cell? ⟨w.heap.size, 2, none⟩ = some (.int .i64 r)) ((repeat' apply And.intro) <;> go_simp)
    (first
      | (go_at_call 49; ((with_reducible refine (l_CopyB T r hb _ _ (hv.up (hup.trans (by repeat' (first | (with_reducible exact Up.refl _) | (with_reducible assumption) | (with_reducible refine Up.alloc ?_ _) | (with_reducible refine Up.drew ?_) | (with_reducible refine Up.grow ?_ _) | (with_reducible refine Up.setCell ?_ (by (try simp); (try omega)) _)))))).mono ?_); rintro e w10 ⟨v5, rfl, hb10, hT3⟩; have hb10 := (Up.drew (Up.refl w9)).trans hb10; have hA := hA.up hb10; have hX := hX.up hb10; have hup := hup.trans hb10; have hX2 := hX2.up hb10; have a0 := hA.cell 0; have a1 := hA.cell 1; have a2 := hA.cell 2; have x0 := hX.cell 0; have x1 := hX.cell 1; have x2 := hX.cell 2))
      | (go_at_call 52; ((with_reducible refine (l_EqB T r _ _ _ hX2.bas hT3.bas).mono ?_); rintro e w11 ⟨rfl, hb11⟩; have hA := hA.up hb11; have hX := hX.up hb11; have hup := hup.trans hb11; have a0 := hA.cell 0; have a1 := hA.cell 1; have a2 := hA.cell 2; have x0 := hX.cell 0; have x1 := hX.cell 1; have x2 := hX.cell 2)))
  go_wp2_with fail
  go_ret
  exact ⟨rfl, hup⟩
set_option maxRecDepth 100000 in
set_option maxHeartbeats 4000000 in
theorem l_BestLeaving (T : Tab) (r : Int) (A : Option Addr) (c : Nat) (hn : T.n ≤ c) (hc : c ≤ 9223372036854775807) (p0 p1 p2 p3 p4 p5 : Int) (w : World) (hI : Ints w A T.n T.f) (q1 q2 q3 : Int)
    (HS : Hid (∀ v w, BasAt w T r v → Calls Try.prog 48 #[v, .agg #[.int .i64 (p0), .int .i64 (p1), .int .i64 (p2), .int .i64 (p3), .int .i64 (p4)]] w (Ret w (.tuple #[.int .i64 q1, .int .i64 q2, .int .i64 q3])))) (HI : Hid (∀ v w, BasAt w T r v → Calls Try.prog 51 #[v, .agg #[.int .i64 (p0), .int .i64 (p1), .int .i64 (p2), .int .i64 (p3), .int .i64 (p4)]] w (Ret w (.tuple #[.int .i64 q1, .int .i64 q2, .int .i64 q3])))) :
    Calls Try.prog 7 #[.agg #[.int .i64 T.first, .slice A T.n c, .int .i64 r], .agg #[.int .i64 (p0), .int .i64 (p1), .int .i64 (p2), .int .i64 (p3), .int .i64 (p4)]] w (Ret w (.bool true)) := by
  by_cases hb : T.n ≤ 1048576
  case neg =>
    have HZ1 : ∀ w, Calls Try.prog 47 #[.agg #[.int .i64 T.first, .slice A T.n c, .int .i64 r], .int .i64 1048576] w (Ret w (.int .i64 (-1))) := fun w => by have h := l_SzB T r A c (by omega) 1048576 (by omega) (by omega) w; rwa [if_pos (by omega)] at h
    replace HZ1 := Lib.hid HZ1
    go_enter Try.func7, Try.ntmps7
    go_wp2_with (go_at_call 47; refine (HZ1.out _).mono ?_; rintro e w' ⟨rfl, hb⟩; first | (obtain ⟨x, rfl⟩ := Grow.on x hb) | (obtain ⟨x, rfl⟩ := Grow.mk' hb))
    go_ret
    exact ⟨rfl, (by repeat' (first | (with_reducible exact Up.refl _) | (with_reducible assumption) | (with_reducible refine Up.alloc ?_ _) | (with_reducible refine Up.drew ?_) | (with_reducible refine Up.grow ?_ _) | (with_reducible refine Up.setCell ?_ (by (try simp); (try omega)) _)))⟩
  have HZ1 : ∀ w, Calls Try.prog 47 #[.agg #[.int .i64 T.first, .slice A T.n c, .int .i64 r], .int .i64 1048576] w (Ret w (.int .i64 (1048576 - T.n))) := fun w => by have h := l_SzB T r A c (by omega) 1048576 (by omega) (by omega) w; rwa [if_neg (by omega)] at h
  replace HZ1 := Lib.hid HZ1
  have hv : BasAt w T r (.agg #[.int .i64 T.first, .slice A T.n c, .int .i64 r]) := ⟨A, c, rfl, hn, hc, hb, hI⟩
  clear hI
  go_enter Try.func7, Try.ntmps7
  go_wp2_with fail
  refine (HZ1.out _).mono ?_; rintro e w1 ⟨rfl, hs1⟩
  have hA : Blk w1 w.heap.size 36 _ := ((Blk.new _ _ _).alloc _).up hs1
  have hP : Blk w1 (w.heap.size + 1) 38 #[.int .i64 p0, .int .i64 p1, .int .i64 p2, .int .i64 p3, .int .i64 p4] := by
    have h := (Blk.new (w.alloc (.cells #[.int .i64 T.first, .slice A T.n c, .int .i64 r] 36)) 38 #[.int .i64 p0, .int .i64 p1, .int .i64 p2, .int .i64 p3, .int .i64 p4]).up hs1
    simpa only [World.size_alloc] using h
  have hup : Up w w1 := (Up.alloc (Up.alloc (Up.refl _) _) _).trans hs1
  clear hs1
  generalize w.heap.size + 1 = B1 at *
  have a0 := hA.cell 0; have a1 := hA.cell 1; have a2 := hA.cell 2; have iA := hA.inw
  have b0 := hP.cell 0; have b1 := hP.cell 1; have b2 := hP.cell 2; have b3 := hP.cell 3; have b4 := hP.cell 4; have iP := hP.inw
  go_wp2_with fail
  go_region_held3 (fun w' => w'.cell? ⟨w.heap.size, 0, none⟩ = some (.int .i64 T.first) ∧ w'.cell? ⟨w.heap.size, 1, none⟩ = some (.slice A T.n c) ∧ w'.cell? ⟨w.heap.size, 2, none⟩ = some (.int .i64 r) ∧ w'.cell? ⟨B1, 0, none⟩ = some (.int .i64 p0) ∧ w'.cell? ⟨B1, 1, none⟩ = some (.int .i64 p1) ∧ w'.cell? ⟨B1, 2, none⟩ = some (.int .i64 p2) ∧ w'.cell? ⟨B1, 3, none⟩ = some (.int .i64 p3) ∧ w'.cell? ⟨B1, 4, none⟩ = some (.int .i64 p4)) ((repeat' apply And.intro) <;> go_simp)
    (first
      | (go_at_call 49; ((with_reducible refine (l_CopyB T r hb _ _ (hv.up (hup.trans (by repeat' (first | (with_reducible exact Up.refl _) | (with_reducible assumption) | (with_reducible refine Up.alloc ?_ _) | (with_reducible refine Up.drew ?_) | (with_reducible refine Up.grow ?_ _) | (with_reducible refine Up.setCell ?_ (by (try simp); (try omega)) _)))))).mono ?_); rintro e w3 ⟨v1, rfl, hb3, hT1⟩; have hb3 := (Up.drew (Up.refl w1)).trans hb3; have hA := hA.up hb3; have hP := hP.up hb3; have hup := hup.trans hb3; have a0 := hA.cell 0; have a1 := hA.cell 1; have a2 := hA.cell 2; have b0 := hP.cell 0; have b1 := hP.cell 1; have b2 := hP.cell 2; have b3 := hP.cell 3; have b4 := hP.cell 4))
      | (go_at_call 50; ((with_reducible refine (l_CopyPol _ _ _ _ _ _).mono ?_); rintro e w4 ⟨rfl, hb4⟩; have hA := hA.up hb4; have hP := hP.up hb4; have hup := hup.trans hb4; have a0 := hA.cell 0; have a1 := hA.cell 1; have a2 := hA.cell 2; have b0 := hP.cell 0; have b1 := hP.cell 1; have b2 := hP.cell 2; have b3 := hP.cell 3; have b4 := hP.cell 4))
      | (go_at_call 48; ((with_reducible refine (HS.out _ _ (hT1.up hb4).bas).mono ?_); rintro e w5 ⟨rfl, hb5⟩; have hA := hA.up hb5; have hP := hP.up hb5; have hup := hup.trans hb5; have a0 := hA.cell 0; have a1 := hA.cell 1; have a2 := hA.cell 2; have b0 := hP.cell 0; have b1 := hP.cell 1; have b2 := hP.cell 2; have b3 := hP.cell 3; have b4 := hP.cell 4)))
  have iA := hA.inw; have iP := hP.inw
  clear hT1 hb3 hb4 hb5
  go_wp2_with fail
  refine (l_CopyB T r hb _ _ (hv.up hup)).mono ?_; rintro e w6 ⟨v3, rfl, hb6, hX2⟩
  have hX := hX2
  obtain ⟨_, A2, c2, rfl, _⟩ := hX
  have hA := hA.up hb6; have hP := hP.up hb6; have hup := hup.trans hb6
  have a0 := hA.cell 0; have a1 := hA.cell 1; have a2 := hA.cell 2; have iA := hA.inw
  have b0 := hP.cell 0; have b1 := hP.cell 1; have b2 := hP.cell 2; have b3 := hP.cell 3; have b4 := hP.cell 4; have iP := hP.inw
  clear hb6
  go_wp2_with fail
  have hX := Blk.new w6 42 #[.int .i64 T.first, .slice A2 T.n c2, .int .i64 r]
  have hA := hA.alloc (.cells #[.int .i64 T.first, .slice A2 T.n c2, .int .i64 r] 42)
  have hP := hP.alloc (.cells #[.int .i64 T.first, .slice A2 T.n c2, .int .i64 r] 42)
  have hup := hup.alloc (.cells #[.int .i64 T.first, .slice A2 T.n c2, .int .i64 r] 42)
  have hX2 := hX2.up (Up.alloc (Up.refl w6) (.cells #[.int .i64 T.first, .slice A2 T.n c2, .int .i64 r] 42))
  clear a0 a1 a2 b0 b1 b2 b3 b4 iA iP
  generalize w6.alloc (.cells #[.int .i64 T.first, .slice A2 T.n c2, .int .i64 r] 42) = w7 at *
  generalize w6.heap.size = B6 at *
  have a0 := hA.cell 0; have a1 := hA.cell 1; have a2 := hA.cell 2; have iA := hA.inw
  have b0 := hP.cell 0; have b1 := hP.cell 1; have b2 := hP.cell 2; have b3 := hP.cell 3; have b4 := hP.cell 4; have iP := hP.inw
  have x0 := hX.cell 0; have x1 := hX.cell 1; have x2 := hX.cell 2; have iX := hX.inw
  go_region_held3 (fun w' => w'.cell? ⟨B6, 0, none⟩ = some (.int .i64 T.first) ∧ w'.cell? ⟨B6, 1, none⟩ = some (.slice A2 T.n c2) ∧ w'.cell? ⟨B6, 2, none⟩ = some (.int .i64 r) ∧ w'.cell? ⟨B1, 0, none⟩ = some (.int .i64 p0) ∧ w'.cell? ⟨B1, 1, none⟩ = some (.int .i64 p1) ∧ w'.cell? ⟨B1, 2, none⟩ = some (.int .i64 p2) ∧ w'.cell? ⟨B1, 3, none⟩ = some (.int .i64 p3) ∧ w'.cell? ⟨B1, 4, none⟩ = some (.int .i64 p4)) ((repeat' apply And.intro) <;> go_simp)
    (first
      | (go_at_call 50; ((with_reducible refine (l_CopyPol _ _ _ _ _ _).mono ?_); rintro e w8 ⟨rfl, hb8⟩; have hb8 := (Up.drew (Up.refl w7)).trans hb8; have hA := hA.up hb8; have hP := hP.up hb8; have hX := hX.up hb8; have hup := hup.trans hb8; have hX2 := hX2.up hb8; have x0 := hX.cell 0; have x1 := hX.cell 1; have x2 := hX.cell 2; have b0 := hP.cell 0; have b1 := hP.cell 1; have b2 := hP.cell 2; have b3 := hP.cell 3; have b4 := hP.cell 4))
      | (go_at_call 51; ((with_reducible refine (HI.out _ _ hX2.bas).mono ?_); rintro e w9 ⟨rfl, hb9⟩; have hA := hA.up hb9; have hP := hP.up hb9; have hX := hX.up hb9; have hup := hup.trans hb9; have hX2 := hX2.up hb9; have x0 := hX.cell 0; have x1 := hX.cell 1; have x2 := hX.cell 2; have b0 := hP.cell 0; have b1 := hP.cell 1; have b2 := hP.cell 2; have b3 := hP.cell 3; have b4 := hP.cell 4)))
  clear hb8 hb9 b0 b1 b2 b3 b4 iP hP
  have a0 := hA.cell 0; have a1 := hA.cell 1; have a2 := hA.cell 2; have iA := hA.inw; have iX := hX.inw
  go_wp2_with fail
  go_region_held3 (fun w' => w'.cell? ⟨B6, 0, none⟩ = some (.int .i64 T.first) ∧ w'.cell? ⟨B6, 1, none⟩ = some (.slice A2 T.n c2) ∧ w'.cell? ⟨B6, 2, none⟩ = some (.int .i64 r) ∧ w'.cell? ⟨w.heap.size, 0, none⟩ = some (.int .i64 T.first) ∧ w'.cell? ⟨w.heap.size, 1, none⟩ = some (.slice A T.n c) ∧ w'.cell? ⟨w.heap.size, 2, none⟩ = some (.int .i64 r)) ((repeat' apply And.intro) <;> go_simp)
    (first
      | (go_at_call 49; ((with_reducible refine (l_CopyB T r hb _ _ (hv.up (hup.trans (by repeat' (first | (with_reducible exact Up.refl _) | (with_reducible assumption) | (with_reducible refine Up.alloc ?_ _) | (with_reducible refine Up.drew ?_) | (with_reducible refine Up.grow ?_ _) | (with_reducible refine Up.setCell ?_ (by (try simp); (try omega)) _)))))).mono ?_); rintro e w10 ⟨v5, rfl, hb10, hT3⟩; have hb10 := (Up.drew (Up.refl w9)).trans hb10; have hA := hA.up hb10; have hX := hX.up hb10; have hup := hup.trans hb10; have hX2 := hX2.up hb10; have a0 := hA.cell 0; have a1 := hA.cell 1; have a2 := hA.cell 2; have x0 := hX.cell 0; have x1 := hX.cell 1; have x2 := hX.cell 2))
      | (go_at_call 52; ((with_reducible refine (l_EqB T r _ _ _ hX2.bas hT3.bas).mono ?_); rintro e w11 ⟨rfl, hb11⟩; have hA := hA.up hb11; have hX := hX.up hb11; have hup := hup.trans hb11; have a0 := hA.cell 0; have a1 := hA.cell 1; have a2 := hA.cell 2; have x0 := hX.cell 0; have x1 := hX.cell 1; have x2 := hX.cell 2)))
  go_wp2_with fail
  go_ret
  exact ⟨rfl, hup⟩
end Go.Proofs.Ytklnikaakpebnaa
