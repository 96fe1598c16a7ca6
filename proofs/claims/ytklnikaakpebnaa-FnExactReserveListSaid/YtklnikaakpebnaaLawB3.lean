/- The law of ReserveList, a function of a basis and a policy that returns a list and a code: the walk. Condition: the slice reads as the table's numbers. -/
import Derived.Test.YtklnikaakpebnaaLawBH
import Derived.Test.YtklnikaakpebnaaICols
import Derived.Test.YtklnikaakpebnaaLists
namespace Go.Proofs.Ytklnikaakpebnaa
open Go.RowKit Pu
set_option linter.unusedVariables false

/-- What mark leaves of a basis. -/
def RetMarkB (w : World) (v : Value) (k : Int) (n : Nat) (e : Ending) (w' : World) : Prop := e = .returned (.int .i64 (k + n)) ∧ ∃ A c f q, v = .agg #[.int .i64 f, .slice A n c, .int .i64 q] ∧ w.grownBy w' (Value.slice A n c).ownBlock
theorem l_MarkB (T : Tab) (r : Int) (v : Value) (k0 : Int) (h0 : 0 ≤ k0) (h1 : k0 ≤ 1048577) (w0 w : World) (h : BasOwn w0 w T r v) :
    Calls Try.prog 70 #[v, .int .i64 k0] w (RetMarkB w v k0 T.n) := by
  obtain ⟨hn, A, c, rfl, hown⟩ := h
  go_enter Try.func70, Try.ntmps70
  go_wp2_with (go_at_call 230; refine (l_MarkT T (.agg #[.int .i64 T.first, .slice A T.n c]) _ h0 h1 w0 _ ⟨hn, A, c, rfl, hown.up (by repeat' (first | (with_reducible exact Up.refl _) | (with_reducible assumption) | (with_reducible refine Up.alloc ?_ _) | (with_reducible refine Up.drew ?_) | (with_reducible refine Up.grow ?_ _) | (with_reducible refine Up.setCell ?_ (by (try simp); (try omega)) _)))⟩).mono ?_; rintro e w' ⟨rfl, A', c', f', he, hg⟩)
  go_ret
  exact ⟨rfl, A, c, _, _, rfl, (World.grownBy_alloc w _ _).trans hg⟩

set_option maxRecDepth 100000 in
set_option maxHeartbeats 8000000 in
theorem l_ReserveList (T : Tab) (r : Int) (A : Option Addr) (c : Nat) (hn : T.n ≤ c) (hc : c ≤ 9223372036854775807) (p0 p1 p2 p3 p4 : Int) (w : World) (hI : Ints w A T.n T.f) (xs : List Int) (q : Int) (hxs : xs.length ≤ 1048576)
    (HS : Hid (∀ v w, BasAt w T r v → Calls Try.prog 82 #[v, .agg #[.int .i64 (p0), .int .i64 (p1), .int .i64 (p2), .int .i64 (p3), .int .i64 (p4)]] w (RetIC w xs q))) (HI : Hid (∀ v w, BasAt w T r v → Calls Try.prog 83 #[v, .agg #[.int .i64 (p0), .int .i64 (p1), .int .i64 (p2), .int .i64 (p3), .int .i64 (p4)]] w (RetIC w xs q))) :
    Calls Try.prog 18 #[.agg #[.int .i64 T.first, .slice A T.n c, .int .i64 r], .agg #[.int .i64 (p0), .int .i64 (p1), .int .i64 (p2), .int .i64 (p3), .int .i64 (p4)]] w (Ret w (.bool true)) := by
  by_cases hb : T.n ≤ 1048576
  case neg =>
    have HZ1 : ∀ w, Calls Try.prog 47 #[.agg #[.int .i64 T.first, .slice A T.n c, .int .i64 r], .int .i64 1048576] w (Ret w (.int .i64 (-1))) := fun w => by have h := l_SzB T r A c (by omega) 1048576 (by omega) (by omega) w; rwa [if_pos (by omega)] at h
    replace HZ1 := Lib.hid HZ1
    go_enter Try.func18, Try.ntmps18
    go_wp2_with (go_at_call 47; refine (HZ1.out _).mono ?_; rintro e w' ⟨rfl, hb⟩; first | (obtain ⟨x, rfl⟩ := Grow.on x hb) | (obtain ⟨x, rfl⟩ := Grow.mk' hb))
    go_ret
    exact ⟨rfl, (by repeat' (first | (with_reducible exact Up.refl _) | (with_reducible assumption) | (with_reducible refine Up.alloc ?_ _) | (with_reducible refine Up.drew ?_) | (with_reducible refine Up.grow ?_ _) | (with_reducible refine Up.setCell ?_ (by (try simp); (try omega)) _)))⟩
  have HZ1 : ∀ w, Calls Try.prog 47 #[.agg #[.int .i64 T.first, .slice A T.n c, .int .i64 r], .int .i64 1048576] w (Ret w (.int .i64 (1048576 - T.n))) := fun w => by have h := l_SzB T r A c (by omega) 1048576 (by omega) (by omega) w; rwa [if_neg (by omega)] at h
  replace HZ1 := Lib.hid HZ1
  have hv : BasAt w T r (.agg #[.int .i64 T.first, .slice A T.n c, .int .i64 r]) := ⟨A, c, rfl, hn, hc, hb, hI⟩
  clear hI
  go_enter Try.func18, Try.ntmps18
  go_wp2_with fail
  refine (HZ1.out _).mono ?_; rintro e w1 ⟨rfl, hs1⟩
  have hA : Blk w1 w.heap.size 36 _ := ((Blk.new _ _ _).alloc _).up hs1
  have hP : Blk w1 (w.heap.size + 1) 38 #[.int .i64 p0, .int .i64 p1, .int .i64 p2, .int .i64 p3, .int .i64 p4] := by
    have h := (Blk.new (w.alloc (.cells #[.int .i64 T.first, .slice A T.n c, .int .i64 r] 36)) 38 #[.int .i64 p0, .int .i64 p1, .int .i64 p2, .int .i64 p3, .int .i64 p4]).up hs1
    simpa only [World.size_alloc] using h
  have hup : Up w w1 := (Up.alloc (Up.alloc (Up.refl _) _) _).trans hs1
  have hB1 : w.heap.size < w.heap.size + 1 := by omega
  clear hs1
  generalize w.heap.size + 1 = B1 at *
  have a0 := hA.cell 0; have a1 := hA.cell 1; have a2 := hA.cell 2; have iA := hA.inw
  have b0 := hP.cell 0; have b1 := hP.cell 1; have b2 := hP.cell 2; have b3 := hP.cell 3; have b4 := hP.cell 4; have iP := hP.inw
  go_wp2_with fail
  go_region_held3 (fun w' => w'.cell? ⟨w.heap.size, 0, none⟩ = some (.int .i64 T.first) ∧ w'.cell? ⟨w.heap.size, 1, none⟩ = some (.slice A T.n c) ∧ w'.cell? ⟨w.heap.size, 2, none⟩ = some (.int .i64 r) ∧ w'.cell? ⟨B1, 0, none⟩ = some (.int .i64 p0) ∧ w'.cell? ⟨B1, 1, none⟩ = some (.int .i64 p1) ∧ w'.cell? ⟨B1, 2, none⟩ = some (.int .i64 p2) ∧ w'.cell? ⟨B1, 3, none⟩ = some (.int .i64 p3) ∧ w'.cell? ⟨B1, 4, none⟩ = some (.int .i64 p4)) ((repeat' apply And.intro) <;> go_simp)
    (first
      | (go_at_call 49; ((with_reducible refine (l_CopyB T r hb _ _ (hv.up (hup.trans (by repeat' (first | (with_reducible exact Up.refl _) | (with_reducible assumption) | (with_reducible refine Up.alloc ?_ _) | (with_reducible refine Up.drew ?_) | (with_reducible refine Up.grow ?_ _) | (with_reducible refine Up.setCell ?_ (by (try simp); (try omega)) _)))))).mono ?_); rintro e w3 ⟨v1, rfl, hb3, hT1⟩; have hb3 := (Up.drew (Up.refl w1)).trans hb3; have hA := hA.up hb3; have hP := hP.up hb3; have hup := hup.trans hb3; have a0 := hA.cell 0; have a1 := hA.cell 1; have a2 := hA.cell 2; have b0 := hP.cell 0; have b1 := hP.cell 1; have b2 := hP.cell 2; have b3 := hP.cell 3; have b4 := hP.cell 4))
      | (go_at_call 50; ((with_reducible refine (l_CopyPol _ _ _ _ _ _).mono ?_); rintro e w4 ⟨rfl, hb4⟩; have hA := hA.up hb4; have hP := hP.up hb4; have hup := hup.trans hb4; have a0 := hA.cell 0; have a1 := hA.cell 1; have a2 := hA.cell 2; have b0 := hP.cell 0; have b1 := hP.cell 1; have b2 := hP.cell 2; have b3 := hP.cell 3; have b4 := hP.cell 4))
      | (go_at_call 82; ((with_reducible refine (HS.out _ _ (hT1.up hb4).bas).mono ?_); rintro e w5 ⟨vs, rfl, hb5, hS⟩; have hA := hA.up hb5; have hP := hP.up hb5; have hup := hup.trans hb5; have a0 := hA.cell 0; have a1 := hA.cell 1; have a2 := hA.cell 2; have b0 := hP.cell 0; have b1 := hP.cell 1; have b2 := hP.cell 2; have b3 := hP.cell 3; have b4 := hP.cell 4)))
  have iA := hA.inw; have iP := hP.inw
  have hsrow : ∀ k, vs.ownBlock = some k → w4.heap.size ≤ k ∧ k < w5.heap.size := World.ownsRow.lt hS
  clear hT1 hb3 hb4 hb5
  go_wp2_with fail
  refine (l_CopyB T r hb _ _ (hv.up hup)).mono ?_; rintro e w6 ⟨v3, rfl, hb6, hX2⟩
  have hX := hX2
  obtain ⟨_, A2, c2, rfl, hO2⟩ := hX
  have hrow : ∀ k, (Value.slice A2 T.n c2).ownBlock = some k → w5.heap.size ≤ k ∧ k < w6.heap.size := World.ownsRow.lt hO2
  have iP5 : B1 < w5.heap.size := iP
  have hs6 := hb6.size
  have hA := hA.up hb6; have hP := hP.up hb6; have hup := hup.trans hb6; have hS := hS.up hb6
  have a0 := hA.cell 0; have a1 := hA.cell 1; have a2 := hA.cell 2; have iA := hA.inw
  have b0 := hP.cell 0; have b1 := hP.cell 1; have b2 := hP.cell 2; have b3 := hP.cell 3; have b4 := hP.cell 4; have iP := hP.inw
  clear hb6
  go_wp2_with fail
  have u7 : Up w6 (w6.alloc (.cells #[.int .i64 T.first, .slice A2 T.n c2, .int .i64 r] 42)) := Up.alloc (Up.refl w6) _
  have hX := Blk.new w6 42 #[.int .i64 T.first, .slice A2 T.n c2, .int .i64 r]
  have hA := hA.up u7; have hP := hP.up u7; have hup := hup.trans u7; have hX2 := hX2.up u7; have hS := hS.up u7
  have hs7 : w6.heap.size < (w6.alloc (.cells #[.int .i64 T.first, .slice A2 T.n c2, .int .i64 r] 42)).heap.size := by simp
  clear a0 a1 a2 b0 b1 b2 b3 b4 iA iP u7
  generalize w6.alloc (.cells #[.int .i64 T.first, .slice A2 T.n c2, .int .i64 r] 42) = w7 at *
  generalize w6.heap.size = B6 at *
  have a0 := hA.cell 0; have a1 := hA.cell 1; have a2 := hA.cell 2; have iA := hA.inw
  have b0 := hP.cell 0; have b1 := hP.cell 1; have b2 := hP.cell 2; have b3 := hP.cell 3; have b4 := hP.cell 4; have iP := hP.inw
  have x0 := hX.cell 0; have x1 := hX.cell 1; have x2 := hX.cell 2; have iX := hX.inw
  go_region_held3 (fun w' => w'.cell? ⟨B6, 0, none⟩ = some (.int .i64 T.first) ∧ w'.cell? ⟨B6, 1, none⟩ = some (.slice A2 T.n c2) ∧ w'.cell? ⟨B6, 2, none⟩ = some (.int .i64 r) ∧ w'.cell? ⟨B1, 0, none⟩ = some (.int .i64 p0) ∧ w'.cell? ⟨B1, 1, none⟩ = some (.int .i64 p1) ∧ w'.cell? ⟨B1, 2, none⟩ = some (.int .i64 p2) ∧ w'.cell? ⟨B1, 3, none⟩ = some (.int .i64 p3) ∧ w'.cell? ⟨B1, 4, none⟩ = some (.int .i64 p4)) ((repeat' apply And.intro) <;> go_simp)
    (first
      | (go_at_call 50; ((with_reducible refine (l_CopyPol _ _ _ _ _ _).mono ?_); rintro e w8 ⟨rfl, hb8⟩; have hb8 := (Up.drew (Up.refl w7)).trans hb8; have hA := hA.up hb8; have hP := hP.up hb8; have hX := hX.up hb8; have hup := hup.trans hb8; have hX2 := hX2.up hb8; have hS := hS.up hb8; have z8 := hb8.size; have x0 := hX.cell 0; have x1 := hX.cell 1; have x2 := hX.cell 2; have b0 := hP.cell 0; have b1 := hP.cell 1; have b2 := hP.cell 2; have b3 := hP.cell 3; have b4 := hP.cell 4))
      | (go_at_call 83; ((with_reducible refine (HI.out _ _ hX2.bas).mono ?_); rintro e w9 ⟨vg, rfl, hb9, hG⟩; have hA := hA.up hb9; have hP := hP.up hb9; have hX := hX.up hb9; have hup := hup.trans hb9; have hX2 := hX2.up hb9; have hS := hS.up hb9; have x0 := hX.cell 0; have x1 := hX.cell 1; have x2 := hX.cell 2; have b0 := hP.cell 0; have b1 := hP.cell 1; have b2 := hP.cell 2; have b3 := hP.cell 3; have b4 := hP.cell 4)))
  have hgrow : ∀ k, vg.ownBlock = some k → B6 < k := fun k hk => by have := (World.ownsRow.lt hG k hk).1; omega
  clear hb8 hb9
  have a0 := hA.cell 0; have a1 := hA.cell 1; have a2 := hA.cell 2; have iA := hA.inw; have iX := hX.inw; have iP := hP.inw
  go_wp2_with fail
  refine (l_Eq vg vs _ hxs _ hG.rd hS.rd).mono ?_; rintro e w10 ⟨rfl, hb10⟩
  have hA := hA.up hb10; have hP := hP.up hb10; have hX := hX.up hb10; have hup := hup.trans hb10; have hS := hS.up hb10; have hG := hG.up hb10; have hX2 := hX2.up hb10
  clear hb10
  have a0 := hA.cell 0; have a1 := hA.cell 1; have a2 := hA.cell 2; have iA := hA.inw
  have x0 := hX.cell 0; have x1 := hX.cell 1; have x2 := hX.cell 2; have iX := hX.inw
  have b0 := hP.cell 0; have b1 := hP.cell 1; have b2 := hP.cell 2; have b3 := hP.cell 3; have b4 := hP.cell 4; have iP := hP.inw
  go_wp2_with fail
  go_region_held3 (fun w' => w'.cell? ⟨B6, 0, none⟩ = some (.int .i64 T.first) ∧ w'.cell? ⟨B6, 1, none⟩ = some (.slice A2 T.n c2) ∧ w'.cell? ⟨B6, 2, none⟩ = some (.int .i64 r) ∧ w'.cell? ⟨w.heap.size, 0, none⟩ = some (.int .i64 T.first) ∧ w'.cell? ⟨w.heap.size, 1, none⟩ = some (.slice A T.n c) ∧ w'.cell? ⟨w.heap.size, 2, none⟩ = some (.int .i64 r)) ((repeat' apply And.intro) <;> go_simp)
    (first
      | (go_at_call 49; ((with_reducible refine (l_CopyB T r hb _ _ (hv.up (hup.trans (by repeat' (first | (with_reducible exact Up.refl _) | (with_reducible assumption) | (with_reducible refine Up.alloc ?_ _) | (with_reducible refine Up.drew ?_) | (with_reducible refine Up.grow ?_ _) | (with_reducible refine Up.setCell ?_ (by (try simp); (try omega)) _)))))).mono ?_); rintro e w11 ⟨v5, rfl, hb11, hT3⟩; have hb11 := (Up.drew (Up.refl w10)).trans hb11; have hA := hA.up hb11; have hP := hP.up hb11; have hX := hX.up hb11; have hup := hup.trans hb11; have hX2 := hX2.up hb11; have hS := hS.up hb11; have hG := hG.up hb11; have a0 := hA.cell 0; have a1 := hA.cell 1; have a2 := hA.cell 2; have x0 := hX.cell 0; have x1 := hX.cell 1; have x2 := hX.cell 2))
      | (go_at_call 52; ((with_reducible refine (l_EqB T r _ _ _ hX2.bas hT3.bas).mono ?_); rintro e w12 ⟨rfl, hb12⟩; have hA := hA.up hb12; have hP := hP.up hb12; have hX := hX.up hb12; have hup := hup.trans hb12; have hX2 := hX2.up hb12; have hS := hS.up hb12; have hG := hG.up hb12; have a0 := hA.cell 0; have a1 := hA.cell 1; have a2 := hA.cell 2; have x0 := hX.cell 0; have x1 := hX.cell 1; have x2 := hX.cell 2)))
  clear hb11 hb12 hT3
  have iA := hA.inw; have iX := hX.inw
  go_wp2_with fail
  refine (l_MarkB T r _ _ (by omega) (by omega) w5 _ hX2).mono ?_; rintro e w13 ⟨rfl, A9, c9, f9, q9, h9, hg13⟩
  injection h9 with h9; simp at h9; obtain ⟨rfl, ⟨rfl, rfl⟩, rfl⟩ := h9
  have hsz := iA; have hBB := hB1
  have hA : Blk w13 w.heap.size 36 _ := blk_far hA hg13 (fun k hk => by have := (hrow k hk).1; omega)
  have hP : Blk w13 B1 38 _ := blk_far hP hg13 (fun k hk => by have := (hrow k hk).1; omega)
  have hS := hS.far hg13 (fun k hk e => by have := (hrow k hk).1; have := (hsrow k e).2; omega)
  have hG := hG.far hg13 (fun k hk e => by have := (hrow k hk).2; have := hgrow k e; omega)
  have hup := hup.far hg13 (fun k hk => by have := (hrow k hk).1; omega)
  clear hX hX2 x0 x1 x2 iX hg13 hsz
  have a0 := hA.cell 0; have a1 := hA.cell 1; have a2 := hA.cell 2; have iA := hA.inw
  go_wp2_with fail
  refine (l_Eq vg vs _ hxs _ hG.rd hS.rd).mono ?_; rintro e w14 ⟨rfl, hb14⟩
  have hA := hA.up hb14; have hP := hP.up hb14; have hup := hup.trans hb14; have hS := hS.up hb14; have hG := hG.up hb14
  clear hb14
  go_wp2_with fail
  refine (l_Mark vg _ hxs 1 (by omega) (by omega) _ _ hG).mono ?_; rintro e w15 ⟨rfl, hM, hg15⟩
  have hA : Blk w15 w.heap.size 36 _ := blk_far hA hg15 (fun k hk => by have := hgrow k hk; omega)
  have hP : Blk w15 B1 38 _ := blk_far hP hg15 (fun k hk => by have := hgrow k hk; omega)
  have hS := hS.far hg15 (fun k hk e => by have := hgrow k hk; have := (hsrow k e).2; omega)
  have hup := hup.far hg15 (fun k hk => by have := hgrow k hk; omega)
  clear hG hg15
  go_wp2_with fail
  refine (l_Held vg 1 _ hxs (by omega) (by omega) _ hM.rd).mono ?_; rintro e w16 ⟨rfl, hb16⟩
  have hA := hA.up hb16; have hP := hP.up hb16; have hup := hup.trans hb16; have hS := hS.up hb16; have hM := hM.up hb16
  clear hb16
  have a0 := hA.cell 0; have a1 := hA.cell 1; have a2 := hA.cell 2; have iA := hA.inw
  have b0 := hP.cell 0; have b1 := hP.cell 1; have b2 := hP.cell 2; have b3 := hP.cell 3; have b4 := hP.cell 4; have iP := hP.inw
  go_wp2_with fail
  go_region_held3 (fun w' => w'.cell? ⟨w.heap.size, 0, none⟩ = some (.int .i64 T.first) ∧ w'.cell? ⟨w.heap.size, 1, none⟩ = some (.slice A T.n c) ∧ w'.cell? ⟨w.heap.size, 2, none⟩ = some (.int .i64 r) ∧ w'.cell? ⟨B1, 0, none⟩ = some (.int .i64 p0) ∧ w'.cell? ⟨B1, 1, none⟩ = some (.int .i64 p1) ∧ w'.cell? ⟨B1, 2, none⟩ = some (.int .i64 p2) ∧ w'.cell? ⟨B1, 3, none⟩ = some (.int .i64 p3) ∧ w'.cell? ⟨B1, 4, none⟩ = some (.int .i64 p4)) ((repeat' apply And.intro) <;> go_simp)
    (first
      | (go_at_call 49; ((with_reducible refine (l_CopyB T r hb _ _ (hv.up (hup.trans (by repeat' (first | (with_reducible exact Up.refl _) | (with_reducible assumption) | (with_reducible refine Up.alloc ?_ _) | (with_reducible refine Up.drew ?_) | (with_reducible refine Up.grow ?_ _) | (with_reducible refine Up.setCell ?_ (by (try simp); (try omega)) _)))))).mono ?_); rintro e w17 ⟨v7, rfl, hb17, hT7⟩; have hb17 := (Up.drew (Up.refl w16)).trans hb17; have hA := hA.up hb17; have hP := hP.up hb17; have hup := hup.trans hb17; have hS := hS.up hb17; have hM := hM.up hb17; have a0 := hA.cell 0; have a1 := hA.cell 1; have a2 := hA.cell 2; have b0 := hP.cell 0; have b1 := hP.cell 1; have b2 := hP.cell 2; have b3 := hP.cell 3; have b4 := hP.cell 4))
      | (go_at_call 50; ((with_reducible refine (l_CopyPol _ _ _ _ _ _).mono ?_); rintro e w18 ⟨rfl, hb18⟩; have hA := hA.up hb18; have hP := hP.up hb18; have hup := hup.trans hb18; have hS := hS.up hb18; have hM := hM.up hb18; have a0 := hA.cell 0; have a1 := hA.cell 1; have a2 := hA.cell 2; have b0 := hP.cell 0; have b1 := hP.cell 1; have b2 := hP.cell 2; have b3 := hP.cell 3; have b4 := hP.cell 4))
      | (go_at_call 83; ((with_reducible refine (HI.out _ _ (hT7.up hb18).bas).mono ?_); rintro e w19 ⟨vh, rfl, hb19, hH⟩; have hA := hA.up hb19; have hP := hP.up hb19; have hup := hup.trans hb19; have hS := hS.up hb19; have hM := hM.up hb19; have a0 := hA.cell 0; have a1 := hA.cell 1; have a2 := hA.cell 2; have b0 := hP.cell 0; have b1 := hP.cell 1; have b2 := hP.cell 2; have b3 := hP.cell 3; have b4 := hP.cell 4)))
  clear hb17 hb18 hb19 hT7
  go_wp2_with fail
  refine (l_Eq vh vs _ hxs _ hH.rd hS.rd).mono ?_; rintro e w20 ⟨rfl, hb20⟩
  have hup := hup.trans hb20; have hM := hM.up hb20
  go_wp2_with fail
  refine (l_Held vg 1 _ hxs (by omega) (by omega) _ hM.rd).mono ?_; rintro e w21 ⟨rfl, hb21⟩
  have hup := hup.trans hb21
  go_wp2_with fail
  go_ret
  exact ⟨rfl, hup⟩
end Go.Proofs.Ytklnikaakpebnaa
