/- Laws of functions of one life table that return a list and a code: the walk. Condition: the slice reads as the table's numbers. -/
import Derived.Test.YtegabpilmjicgaaLawT
import Derived.Test.YtegabpilmjicgaaICols
import Derived.Test.YtegabpilmjicgaaLists
namespace Go.Proofs.Ytegabpilmjicgaa
open Go.RowKit Pu

set_option maxRecDepth 100000 in
set_option maxHeartbeats 2000000 in
theorem l_AnnuityPrices (T : Tab) (A : Option Addr) (c : Nat) (hn : T.n ≤ c) (hc : c ≤ 9223372036854775807) (r m : Int) (w : World) (hI : Ints w A T.n T.f) (xs : List Int) (q : Int) (hxs : xs.length ≤ 1048576)
    (HS : Hid (∀ v w, TabAt w T v → Calls Try.prog 50 #[v, .int .i64 r, .int .i64 m] w (RetIC w xs q))) (HI : Hid (∀ v w, TabAt w T v → Calls Try.prog 51 #[v, .int .i64 r, .int .i64 m] w (RetIC w xs q))) :
    Calls Try.prog 12 #[.agg #[.int .i64 T.first, .slice A T.n c], .int .i64 r, .int .i64 m] w (Ret w (.bool true)) := by
  by_cases hb : T.n ≤ 1048576
  case neg =>
    go_enter Try.func12, Try.ntmps12
    go_wp2_with (go_at_call 25; refine (l_SzT T _ _ (by omega) _ (by omega) (by omega) _).mono ?_; rintro e w' ⟨rfl, hb⟩; first | (obtain ⟨x, rfl⟩ := Grow.on x hb) | (obtain ⟨x, rfl⟩ := Grow.mk' hb))
    go_ret
    exact ⟨rfl, (by repeat' (first | (with_reducible exact Up.refl _) | (with_reducible assumption) | (with_reducible refine Up.alloc ?_ _) | (with_reducible refine Up.drew ?_) | (with_reducible refine Up.grow ?_ _) | (with_reducible refine Up.setCell ?_ (by (try simp); (try omega)) _)))⟩
  have hv : TabAt w T (.agg #[.int .i64 T.first, .slice A T.n c]) := ⟨A, c, rfl, hn, hc, hb, hI⟩
  go_enter Try.func12, Try.ntmps12
  go_wp2_with fail
  refine (l_SzT T _ _ (by omega) _ (by omega) (by omega) _).mono ?_; rintro e w1 ⟨rfl, hb⟩
  have hA : Blk w1 w.heap.size 24 _ := (Blk.new _ _ _).up hb
  have hup : Up w w1 := (Up.alloc (Up.refl _) _).trans hb
  have a0 := hA.cell 0; have a1 := hA.cell 1; have iA := hA.inw
  clear hb
  go_wp2_with fail
  refine (l_CopyT T hb _ _ (hv.up hup)).mono ?_; rintro e w2 ⟨v1, rfl, hb1, hT1⟩
  have hA := hA.up hb1; have hup := hup.trans hb1
  have a0 := hA.cell 0; have a1 := hA.cell 1; have iA := hA.inw
  go_wp2_with fail
  refine (HS.out _ _ hT1.tab).mono ?_; rintro e w3 ⟨vs, rfl, hb2, hS⟩
  have hA := hA.up hb2; have hup := hup.trans hb2
  have a0 := hA.cell 0; have a1 := hA.cell 1; have iA := hA.inw
  have hup3 : w.heap.size < w3.heap.size := hA.inw
  clear hT1 hb1
  go_wp2_with fail
  refine (l_CopyT T hb _ _ (hv.up hup)).mono ?_; rintro e w4 ⟨v2, rfl, hb3, hX2⟩
  have hX := hX2
  obtain ⟨_, A2, c2, rfl, hO2⟩ := hX
  have hrow : ∀ k, (Value.slice A2 T.n c2).ownBlock = some k → w3.heap.size ≤ k ∧ k < w4.heap.size := World.ownsRow.lt hO2
  have hsrow : ∀ k, vs.ownBlock = some k → w2.heap.size ≤ k ∧ k < w3.heap.size := World.ownsRow.lt hS
  have hA := hA.up hb3; have hup := hup.trans hb3; have hS := hS.up hb3
  have a0 := hA.cell 0; have a1 := hA.cell 1; have iA := hA.inw
  go_wp2_with fail
  refine (HI.out _ _ (hX2.tab.up (by repeat' (first | (with_reducible exact Up.refl _) | (with_reducible assumption) | (with_reducible refine Up.alloc ?_ _) | (with_reducible refine Up.drew ?_) | (with_reducible refine Up.grow ?_ _) | (with_reducible refine Up.setCell ?_ (by (try simp); (try omega)) _))))).mono ?_; rintro e w5 ⟨vg, rfl, hb4, hG⟩
  have hX : Blk w5 w4.heap.size 28 _ := (Blk.new _ _ _).up hb4
  have hA := (hA.alloc _).up hb4; have hup := (hup.alloc _).trans hb4; have hS := (hS.up (Up.alloc (Up.refl _) _)).up hb4
  have hX2 := (hX2.up (Up.alloc (Up.refl _) _)).up hb4; have hO2 := (hO2.up (Up.alloc (Up.refl _) _)).up hb4
  have a0 := hA.cell 0; have a1 := hA.cell 1; have iA := hA.inw
  have x0 := hX.cell 0; have x1 := hX.cell 1; have iX := hX.inw
  go_wp2_with fail
  refine (l_Eq vg vs _ hxs _ hG.rd hS.rd).mono ?_; rintro e w6 ⟨rfl, hb5⟩
  have hA := hA.up hb5; have hX := hX.up hb5; have hup := hup.trans hb5; have hS := hS.up hb5; have hG := hG.up hb5; have hX2 := hX2.up hb5; have hO2 := hO2.up hb5
  have a0 := hA.cell 0; have a1 := hA.cell 1; have iA := hA.inw
  have x0 := hX.cell 0; have x1 := hX.cell 1; have iX := hX.inw
  go_wp2_with fail
  go_region_held3 (fun w' => w'.cell? ⟨w.heap.size, 0, none⟩ = some (.int .i64 T.first) ∧ w'.cell? ⟨w.heap.size, 1, none⟩ = some (.slice A T.n c) ∧ w'.cell? ⟨w4.heap.size, 0, none⟩ = some (.int .i64 T.first) ∧ w'.cell? ⟨w4.heap.size, 1, none⟩ = some (.slice A2 T.n c2)) ((repeat' apply And.intro) <;> go_simp)
    (first
      | (go_at_call 27; refine (l_CopyT T hb _ _ (hv.up (hup.trans (by repeat' (first | (with_reducible exact Up.refl _) | (with_reducible assumption) | (with_reducible refine Up.alloc ?_ _) | (with_reducible refine Up.drew ?_) | (with_reducible refine Up.grow ?_ _) | (with_reducible refine Up.setCell ?_ (by (try simp); (try omega)) _)))))).mono ?_; rintro e w7 ⟨v3, rfl, hb6, hT3⟩; have hA := hA.up ((Up.drew (Up.refl _)).trans hb6); have hX := hX.up ((Up.drew (Up.refl _)).trans hb6); have a0 := hA.cell 0; have a1 := hA.cell 1; have x0 := hX.cell 0; have x1 := hX.cell 1)
      | (go_at_call 30; refine (l_EqT T _ _ _ (hX2.tab.up ((Up.drew (Up.refl _)).trans hb6)) hT3.tab).mono ?_; rintro e w8 ⟨rfl, hb7⟩; have hA := hA.up hb7; have hX := hX.up hb7; have a0 := hA.cell 0; have a1 := hA.cell 1; have x0 := hX.cell 0; have x1 := hX.cell 1))
  have hd : Up w6 w8 := ((Up.drew (Up.refl _)).trans hb6).trans hb7
  have hup := hup.trans hd; have hS := hS.up hd; have hG := hG.up hd; have hX2 := hX2.up hd
  have iA := hA.inw; have iX := hX.inw
  have hgrow : ∀ k, vg.ownBlock = some k → w4.heap.size < k := fun k hk => by have := (World.ownsRow.lt hG k hk).1; simp at this; omega
  have hrow4 : w3.heap.size ≤ w4.heap.size := hb3.size
  have hww : w.heap.size < w3.heap.size := by have := hup3; omega
  go_wp2_with fail
  refine (l_MarkT T _ _ (by omega) (by omega) w3 _ hX2).mono ?_; rintro e w9 ⟨rfl, A9, c9, f9, h9, hg9⟩
  injection h9 with h9; simp at h9; obtain ⟨rfl, rfl, rfl⟩ := h9
  have hA : Blk w9 w.heap.size 24 _ := blk_far hA hg9 (fun k hk => by have := (hrow k hk).1; omega)
  have hX : Blk w9 w4.heap.size 28 _ := blk_far hX hg9 (fun k hk => by have := (hrow k hk).2; omega)
  have hS := hS.far hg9 (fun k hk e => by have := (hrow k hk).1; have := (hsrow k e).2; omega)
  have hG := hG.far hg9 (fun k hk e => by have := (hrow k hk).2; have := hgrow k e; omega)
  have hup := hup.far hg9 (fun k hk => by have := (hrow k hk).1; omega)
  have a0 := hA.cell 0; have a1 := hA.cell 1; have iA := hA.inw
  have x0 := hX.cell 0; have x1 := hX.cell 1; have iX := hX.inw
  go_wp2_with fail
  refine (l_Eq vg vs _ hxs _ hG.rd hS.rd).mono ?_; rintro e w10 ⟨rfl, hb10⟩
  have hA := hA.up hb10; have hup := hup.trans hb10; have hS := hS.up hb10; have hG := hG.up hb10
  have a0 := hA.cell 0; have a1 := hA.cell 1; have iA := hA.inw
  clear hX hX2 x0 x1 iX
  go_wp2_with fail
  refine (l_Mark vg _ hxs 1 (by omega) (by omega) _ _ hG).mono ?_; rintro e w11 ⟨rfl, hM, hg11⟩
  have hA : Blk w11 w.heap.size 24 _ := blk_far hA hg11 (fun k hk => by have := hgrow k hk; have := (hrow4); omega)
  have hS := hS.far hg11 (fun k hk e => by have := hgrow k hk; have := (hsrow k e).2; omega)
  have hup := hup.far hg11 (fun k hk => by have := hgrow k hk; omega)
  have a0 := hA.cell 0; have a1 := hA.cell 1; have iA := hA.inw
  clear hG hg11
  go_wp2_with fail
  refine (l_Held vg 1 _ hxs (by omega) (by omega) _ hM.rd).mono ?_; rintro e w12 ⟨rfl, hb12⟩
  have hA := hA.up hb12; have hup := hup.trans hb12; have hS := hS.up hb12; have hM := hM.up hb12
  have a0 := hA.cell 0; have a1 := hA.cell 1; have iA := hA.inw
  go_wp2_with fail
  refine (l_CopyT T hb _ _ (hv.up hup)).mono ?_; rintro e w13 ⟨v4, rfl, hb13, hT4⟩
  have hup := hup.trans hb13; have hS := hS.up hb13; have hM := hM.up hb13
  go_wp2_with fail
  refine (HI.out _ _ hT4.tab).mono ?_; rintro e w14 ⟨vh, rfl, hb14, hH⟩
  have hup := hup.trans hb14; have hS := hS.up hb14; have hM := hM.up hb14
  go_wp2_with fail
  refine (l_Eq vh vs _ hxs _ hH.rd hS.rd).mono ?_; rintro e w15 ⟨rfl, hb15⟩
  have hup := hup.trans hb15; have hM := hM.up hb15
  go_wp2_with fail
  refine (l_Held vg 1 _ hxs (by omega) (by omega) _ hM.rd).mono ?_; rintro e w16 ⟨rfl, hb16⟩
  have hup := hup.trans hb16
  go_wp2_with fail
  go_ret
  exact ⟨rfl, hup⟩
set_option maxRecDepth 100000 in
set_option maxHeartbeats 2000000 in
theorem l_NaturalPremiums (T : Tab) (A : Option Addr) (c : Nat) (hn : T.n ≤ c) (hc : c ≤ 9223372036854775807) (r age n m : Int) (w : World) (hI : Ints w A T.n T.f) (xs : List Int) (q : Int) (hxs : xs.length ≤ 1048576)
    (HS : Hid (∀ v w, TabAt w T v → Calls Try.prog 64 #[v, .int .i64 r, .int .i64 age, .int .i64 n, .int .i64 m] w (RetIC w xs q))) (HI : Hid (∀ v w, TabAt w T v → Calls Try.prog 65 #[v, .int .i64 r, .int .i64 age, .int .i64 n, .int .i64 m] w (RetIC w xs q))) :
    Calls Try.prog 19 #[.agg #[.int .i64 T.first, .slice A T.n c], .int .i64 r, .int .i64 age, .int .i64 n, .int .i64 m] w (Ret w (.bool true)) := by
  by_cases hb : T.n ≤ 1048576
  case neg =>
    go_enter Try.func19, Try.ntmps19
    go_wp2_with (go_at_call 25; refine (l_SzT T _ _ (by omega) _ (by omega) (by omega) _).mono ?_; rintro e w' ⟨rfl, hb⟩; first | (obtain ⟨x, rfl⟩ := Grow.on x hb) | (obtain ⟨x, rfl⟩ := Grow.mk' hb))
    go_ret
    exact ⟨rfl, (by repeat' (first | (with_reducible exact Up.refl _) | (with_reducible assumption) | (with_reducible refine Up.alloc ?_ _) | (with_reducible refine Up.drew ?_) | (with_reducible refine Up.grow ?_ _) | (with_reducible refine Up.setCell ?_ (by (try simp); (try omega)) _)))⟩
  have hv : TabAt w T (.agg #[.int .i64 T.first, .slice A T.n c]) := ⟨A, c, rfl, hn, hc, hb, hI⟩
  go_enter Try.func19, Try.ntmps19
  go_wp2_with fail
  refine (l_SzT T _ _ (by omega) _ (by omega) (by omega) _).mono ?_; rintro e w1 ⟨rfl, hb⟩
  have hA : Blk w1 w.heap.size 24 _ := (Blk.new _ _ _).up hb
  have hup : Up w w1 := (Up.alloc (Up.refl _) _).trans hb
  have a0 := hA.cell 0; have a1 := hA.cell 1; have iA := hA.inw
  clear hb
  go_wp2_with fail
  refine (l_CopyT T hb _ _ (hv.up hup)).mono ?_; rintro e w2 ⟨v1, rfl, hb1, hT1⟩
  have hA := hA.up hb1; have hup := hup.trans hb1
  have a0 := hA.cell 0; have a1 := hA.cell 1; have iA := hA.inw
  go_wp2_with fail
  refine (HS.out _ _ hT1.tab).mono ?_; rintro e w3 ⟨vs, rfl, hb2, hS⟩
  have hA := hA.up hb2; have hup := hup.trans hb2
  have a0 := hA.cell 0; have a1 := hA.cell 1; have iA := hA.inw
  have hup3 : w.heap.size < w3.heap.size := hA.inw
  clear hT1 hb1
  go_wp2_with fail
  refine (l_CopyT T hb _ _ (hv.up hup)).mono ?_; rintro e w4 ⟨v2, rfl, hb3, hX2⟩
  have hX := hX2
  obtain ⟨_, A2, c2, rfl, hO2⟩ := hX
  have hrow : ∀ k, (Value.slice A2 T.n c2).ownBlock = some k → w3.heap.size ≤ k ∧ k < w4.heap.size := World.ownsRow.lt hO2
  have hsrow : ∀ k, vs.ownBlock = some k → w2.heap.size ≤ k ∧ k < w3.heap.size := World.ownsRow.lt hS
  have hA := hA.up hb3; have hup := hup.trans hb3; have hS := hS.up hb3
  have a0 := hA.cell 0; have a1 := hA.cell 1; have iA := hA.inw
  go_wp2_with fail
  refine (HI.out _ _ (hX2.tab.up (by repeat' (first | (with_reducible exact Up.refl _) | (with_reducible assumption) | (with_reducible refine Up.alloc ?_ _) | (with_reducible refine Up.drew ?_) | (with_reducible refine Up.grow ?_ _) | (with_reducible refine Up.setCell ?_ (by (try simp); (try omega)) _))))).mono ?_; rintro e w5 ⟨vg, rfl, hb4, hG⟩
  have hX : Blk w5 w4.heap.size 28 _ := (Blk.new _ _ _).up hb4
  have hA := (hA.alloc _).up hb4; have hup := (hup.alloc _).trans hb4; have hS := (hS.up (Up.alloc (Up.refl _) _)).up hb4
  have hX2 := (hX2.up (Up.alloc (Up.refl _) _)).up hb4; have hO2 := (hO2.up (Up.alloc (Up.refl _) _)).up hb4
  have a0 := hA.cell 0; have a1 := hA.cell 1; have iA := hA.inw
  have x0 := hX.cell 0; have x1 := hX.cell 1; have iX := hX.inw
  go_wp2_with fail
  refine (l_Eq vg vs _ hxs _ hG.rd hS.rd).mono ?_; rintro e w6 ⟨rfl, hb5⟩
  have hA := hA.up hb5; have hX := hX.up hb5; have hup := hup.trans hb5; have hS := hS.up hb5; have hG := hG.up hb5; have hX2 := hX2.up hb5; have hO2 := hO2.up hb5
  have a0 := hA.cell 0; have a1 := hA.cell 1; have iA := hA.inw
  have x0 := hX.cell 0; have x1 := hX.cell 1; have iX := hX.inw
  go_wp2_with fail
  go_region_held3 (fun w' => w'.cell? ⟨w.heap.size, 0, none⟩ = some (.int .i64 T.first) ∧ w'.cell? ⟨w.heap.size, 1, none⟩ = some (.slice A T.n c) ∧ w'.cell? ⟨w4.heap.size, 0, none⟩ = some (.int .i64 T.first) ∧ w'.cell? ⟨w4.heap.size, 1, none⟩ = some (.slice A2 T.n c2)) ((repeat' apply And.intro) <;> go_simp)
    (first
      | (go_at_call 27; refine (l_CopyT T hb _ _ (hv.up (hup.trans (by repeat' (first | (with_reducible exact Up.refl _) | (with_reducible assumption) | (with_reducible refine Up.alloc ?_ _) | (with_reducible refine Up.drew ?_) | (with_reducible refine Up.grow ?_ _) | (with_reducible refine Up.setCell ?_ (by (try simp); (try omega)) _)))))).mono ?_; rintro e w7 ⟨v3, rfl, hb6, hT3⟩; have hA := hA.up ((Up.drew (Up.refl _)).trans hb6); have hX := hX.up ((Up.drew (Up.refl _)).trans hb6); have a0 := hA.cell 0; have a1 := hA.cell 1; have x0 := hX.cell 0; have x1 := hX.cell 1)
      | (go_at_call 30; refine (l_EqT T _ _ _ (hX2.tab.up ((Up.drew (Up.refl _)).trans hb6)) hT3.tab).mono ?_; rintro e w8 ⟨rfl, hb7⟩; have hA := hA.up hb7; have hX := hX.up hb7; have a0 := hA.cell 0; have a1 := hA.cell 1; have x0 := hX.cell 0; have x1 := hX.cell 1))
  have hd : Up w6 w8 := ((Up.drew (Up.refl _)).trans hb6).trans hb7
  have hup := hup.trans hd; have hS := hS.up hd; have hG := hG.up hd; have hX2 := hX2.up hd
  have iA := hA.inw; have iX := hX.inw
  have hgrow : ∀ k, vg.ownBlock = some k → w4.heap.size < k := fun k hk => by have := (World.ownsRow.lt hG k hk).1; simp at this; omega
  have hrow4 : w3.heap.size ≤ w4.heap.size := hb3.size
  have hww : w.heap.size < w3.heap.size := by have := hup3; omega
  go_wp2_with fail
  refine (l_MarkT T _ _ (by omega) (by omega) w3 _ hX2).mono ?_; rintro e w9 ⟨rfl, A9, c9, f9, h9, hg9⟩
  injection h9 with h9; simp at h9; obtain ⟨rfl, rfl, rfl⟩ := h9
  have hA : Blk w9 w.heap.size 24 _ := blk_far hA hg9 (fun k hk => by have := (hrow k hk).1; omega)
  have hX : Blk w9 w4.heap.size 28 _ := blk_far hX hg9 (fun k hk => by have := (hrow k hk).2; omega)
  have hS := hS.far hg9 (fun k hk e => by have := (hrow k hk).1; have := (hsrow k e).2; omega)
  have hG := hG.far hg9 (fun k hk e => by have := (hrow k hk).2; have := hgrow k e; omega)
  have hup := hup.far hg9 (fun k hk => by have := (hrow k hk).1; omega)
  have a0 := hA.cell 0; have a1 := hA.cell 1; have iA := hA.inw
  have x0 := hX.cell 0; have x1 := hX.cell 1; have iX := hX.inw
  go_wp2_with fail
  refine (l_Eq vg vs _ hxs _ hG.rd hS.rd).mono ?_; rintro e w10 ⟨rfl, hb10⟩
  have hA := hA.up hb10; have hup := hup.trans hb10; have hS := hS.up hb10; have hG := hG.up hb10
  have a0 := hA.cell 0; have a1 := hA.cell 1; have iA := hA.inw
  clear hX hX2 x0 x1 iX
  go_wp2_with fail
  refine (l_Mark vg _ hxs 1 (by omega) (by omega) _ _ hG).mono ?_; rintro e w11 ⟨rfl, hM, hg11⟩
  have hA : Blk w11 w.heap.size 24 _ := blk_far hA hg11 (fun k hk => by have := hgrow k hk; have := (hrow4); omega)
  have hS := hS.far hg11 (fun k hk e => by have := hgrow k hk; have := (hsrow k e).2; omega)
  have hup := hup.far hg11 (fun k hk => by have := hgrow k hk; omega)
  have a0 := hA.cell 0; have a1 := hA.cell 1; have iA := hA.inw
  clear hG hg11
  go_wp2_with fail
  refine (l_Held vg 1 _ hxs (by omega) (by omega) _ hM.rd).mono ?_; rintro e w12 ⟨rfl, hb12⟩
  have hA := hA.up hb12; have hup := hup.trans hb12; have hS := hS.up hb12; have hM := hM.up hb12
  have a0 := hA.cell 0; have a1 := hA.cell 1; have iA := hA.inw
  go_wp2_with fail
  refine (l_CopyT T hb _ _ (hv.up hup)).mono ?_; rintro e w13 ⟨v4, rfl, hb13, hT4⟩
  have hup := hup.trans hb13; have hS := hS.up hb13; have hM := hM.up hb13
  go_wp2_with fail
  refine (HI.out _ _ hT4.tab).mono ?_; rintro e w14 ⟨vh, rfl, hb14, hH⟩
  have hup := hup.trans hb14; have hS := hS.up hb14; have hM := hM.up hb14
  go_wp2_with fail
  refine (l_Eq vh vs _ hxs _ hH.rd hS.rd).mono ?_; rintro e w15 ⟨rfl, hb15⟩
  have hup := hup.trans hb15; have hM := hM.up hb15
  go_wp2_with fail
  refine (l_Held vg 1 _ hxs (by omega) (by omega) _ hM.rd).mono ?_; rintro e w16 ⟨rfl, hb16⟩
  have hup := hup.trans hb16
  go_wp2_with fail
  go_ret
  exact ⟨rfl, hup⟩
end Go.Proofs.Ytegabpilmjicgaa
