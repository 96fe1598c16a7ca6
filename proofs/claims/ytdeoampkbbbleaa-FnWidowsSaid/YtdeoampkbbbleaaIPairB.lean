/- The rest of checkPairAnnuity's contract: the ways behind the last test. Condition: the slices read as the tables' numbers. -/
import Derived.Test.YtdeoampkbbbleaaIPair
namespace Go.Proofs.Ytdeoampkbbbleaa
open Go.RowKit Pu

set_option maxRecDepth 100000 in
set_option maxHeartbeats 4000000 in
theorem i_PA3B (T U : Tab) (i j : Nat) (r m : Int) (v u : Value) (w : World) (hv : TabAt w T v) (hu : TabAt w U u) (hT : T.Ok) (hU : U.Ok) (h1 : inR (T.first + i) T.first 100 = true) (h2 : inR (U.first + j) U.first 150 = true) (h3 : inR r 0 200 = true) (h4 : inR m 1 1000000 = true) (hd : (T.D r i == 0) = false) (hd2 : U.D r j = 0) :
    Calls Try.prog 241 #[v, .int .i64 (T.first + i), u, .int .i64 (U.first + j), .int .i64 r, .int .i64 m] w (Ret w (.int .i64 5)) := by
  have hv' := hv
  have hu' := hu
  obtain ⟨A, c, rfl, hc, hm, _, hI⟩ := hv
  obtain ⟨A2, c2, rfl, hc2, hm2, _, hI2⟩ := hu
  have q1 := hT.lo; have q2 := hT.hi; have q3 := hU.lo; have q4 := hU.hi
  have b1 := inR_true.1 h1; have b2 := inR_true.1 h2; have b3 := inR_true.1 h3
  have HT := Lib.hid (i_Valid T true ((Tab.okB_iff T).2 hT))
  have HU := Lib.hid (i_Valid U true ((Tab.okB_iff U).2 hU))
  have HP := Lib.hid (i_Pair (T := T) (U := U) hT.lo (T.first + i) (U.first + j) true (by rw [h1, h2]; rfl))
  have HC1 := Lib.hid (i_Cols hT b3.1 b3.2)
  have HC2 := Lib.hid (i_Cols hU b3.1 b3.2)
  obtain ⟨L1, hL1⟩ : ∃ L : Nat, (151 - T.first).toNat = L := ⟨_, rfl⟩
  obtain ⟨L2, hL2⟩ : ∃ L : Nat, (151 - U.first).toNat = L := ⟨_, rfl⟩
  have i1 : IntKind.i64.wrap (T.first + i - T.first) = i := by rw [IntWalk.i64_in _ (by omega)]; omega
  have i2 : IntKind.i64.wrap (U.first + j - U.first) = j := by rw [IntWalk.i64_in _ (by omega)]; omega
  have g1 : (i : Int) < L1 := by omega
  have g2 : (j : Int) < L2 := by omega
  have g3 : (0 : Int) ≤ i := by omega
  have g4 : (0 : Int) ≤ j := by omega
  have g5 : i < (151 - T.first).toNat := by omega
  have g6 : j < (151 - U.first).toNat := by omega
  have G5 := Lib.hid g5
  have G6 := Lib.hid g6
  have HL1 := Lib.hid hL1
  have HL2 := Lib.hid hL2
  clear h1 h2 g5 g6 hL1 hL2 hI hI2
  go_enter Try.func241, Try.ntmps241
  go_upto_region 5 with (first | (go_at_call 142; refine (s_In _ _ _ _).mono ?_; rintro e w' ⟨rfl, rfl⟩) | (go_at_call 186; refine (i_In _ _ _ _).mono ?_; rintro e w' ⟨rfl, rfl⟩) | (go_at_call 222; refine (s_Rate _ _).mono ?_; rintro e w' ⟨rfl, rfl⟩) | (go_at_call 165; refine (i_Rate _ _).mono ?_; rintro e w' ⟨rfl, rfl⟩) | (go_at_call 262; refine (i_Years _ _).mono ?_; rintro e w' ⟨rfl, rfl⟩) | (go_at_call 227; refine (s_Amount6 _ _).mono ?_; rintro e w' ⟨rfl, rfl⟩) | (go_at_call 236; refine (s_Sum7 _ _).mono ?_; rintro e w' ⟨rfl, rfl⟩) | (go_at_call 74; ((with_reducible refine (HT.out _ _ (hv'.up (by repeat' (first | (with_reducible exact Up.refl _) | (with_reducible assumption) | (with_reducible refine Up.alloc ?_ _) | (with_reducible refine Up.drew ?_) | (with_reducible refine Up.grow ?_ _) | (with_reducible refine Up.setCell ?_ (by (try simp); (try omega)) _))))).mono ?_); rintro e w' ⟨rfl, hb⟩; first | (obtain ⟨x, rfl⟩ := Grow.on x hb) | (obtain ⟨x, rfl⟩ := Grow.mk' hb))) | (go_at_call 74; ((with_reducible refine (HU.out _ _ (hu'.up (by repeat' (first | (with_reducible exact Up.refl _) | (with_reducible assumption) | (with_reducible refine Up.alloc ?_ _) | (with_reducible refine Up.drew ?_) | (with_reducible refine Up.grow ?_ _) | (with_reducible refine Up.setCell ?_ (by (try simp); (try omega)) _))))).mono ?_); rintro e w' ⟨rfl, hb⟩; first | (obtain ⟨x, rfl⟩ := Grow.on x hb) | (obtain ⟨x, rfl⟩ := Grow.mk' hb))) | (go_at_call 257; refine (HP.out _ _ _ (hv'.up (by repeat' (first | (with_reducible exact Up.refl _) | (with_reducible assumption) | (with_reducible refine Up.alloc ?_ _) | (with_reducible refine Up.drew ?_) | (with_reducible refine Up.grow ?_ _) | (with_reducible refine Up.setCell ?_ (by (try simp); (try omega)) _)))) (hu'.up (by repeat' (first | (with_reducible exact Up.refl _) | (with_reducible assumption) | (with_reducible refine Up.alloc ?_ _) | (with_reducible refine Up.drew ?_) | (with_reducible refine Up.grow ?_ _) | (with_reducible refine Up.setCell ?_ (by (try simp); (try omega)) _))))).mono ?_; rintro e w' ⟨rfl, hb⟩; first | (obtain ⟨x, rfl⟩ := Grow.on x hb) | (obtain ⟨x, rfl⟩ := Grow.mk' hb)))
  go_region_with (first
    | (go_at_call 197; ((with_reducible refine (HC1.out _ _ (hv'.up (by repeat' (first | (with_reducible exact Up.refl _) | (with_reducible assumption) | (with_reducible refine Up.alloc ?_ _) | (with_reducible refine Up.drew ?_) | (with_reducible refine Up.grow ?_ _) | (with_reducible refine Up.setCell ?_ (by (try simp); (try omega)) _))))).mono ?_); rintro e w6 ⟨v5, rfl, hb6, ga, cs, rfl, hg, hcs⟩; rw [HL1.out]; obtain ⟨a0, _, _, _⟩ := row_at hg (hcs i G5.out); have ia := hg.inw; clear hcs; have hb6 := (Up.drew (Up.refl x.to)).trans hb6; obtain ⟨y, rfl⟩ := Grow.on x hb6))
    | (go_at_call 197; ((with_reducible refine (HC2.out _ _ (hu'.up (by repeat' (first | (with_reducible exact Up.refl _) | (with_reducible assumption) | (with_reducible refine Up.alloc ?_ _) | (with_reducible refine Up.drew ?_) | (with_reducible refine Up.grow ?_ _) | (with_reducible refine Up.setCell ?_ (by (try simp); (try omega)) _))))).mono ?_); rintro e w7 ⟨v6, rfl, hb7, gb, cs2, rfl, hg2, hcs2⟩; rw [HL2.out]; obtain ⟨c0, _, _, _⟩ := row_at hg2 (hcs2 j G6.out); have ib := hg2.inw; clear hcs2; obtain ⟨z, rfl⟩ := Grow.on y hb7)))
  all_goals
    go_wp2
    go_ret
    exact ⟨rfl, (by repeat' (first | (with_reducible exact Up.refl _) | (with_reducible assumption) | (with_reducible refine Up.alloc ?_ _) | (with_reducible refine Up.drew ?_) | (with_reducible refine Up.grow ?_ _) | (with_reducible refine Up.setCell ?_ (by (try simp); (try omega)) _)))⟩
set_option maxRecDepth 100000 in
set_option maxHeartbeats 4000000 in
theorem i_PA3C (T U : Tab) (i j : Nat) (r m : Int) (v u : Value) (w : World) (hv : TabAt w T v) (hu : TabAt w U u) (hT : T.Ok) (hU : U.Ok) (h1 : inR (T.first + i) T.first 100 = true) (h2 : inR (U.first + j) U.first 150 = true) (h3 : inR r 0 200 = true) (h4 : inR m 1 1000000 = true) (hd : (T.D r i == 0) = false) (hd2 : (U.D r j == 0) = false) :
    Calls Try.prog 241 #[v, .int .i64 (T.first + i), u, .int .i64 (U.first + j), .int .i64 r, .int .i64 m] w (Ret w (.int .i64 0)) := by
  have hv' := hv
  have hu' := hu
  obtain ⟨A, c, rfl, hc, hm, _, hI⟩ := hv
  obtain ⟨A2, c2, rfl, hc2, hm2, _, hI2⟩ := hu
  have q1 := hT.lo; have q2 := hT.hi; have q3 := hU.lo; have q4 := hU.hi
  have b1 := inR_true.1 h1; have b2 := inR_true.1 h2; have b3 := inR_true.1 h3
  have HT := Lib.hid (i_Valid T true ((Tab.okB_iff T).2 hT))
  have HU := Lib.hid (i_Valid U true ((Tab.okB_iff U).2 hU))
  have HP := Lib.hid (i_Pair (T := T) (U := U) hT.lo (T.first + i) (U.first + j) true (by rw [h1, h2]; rfl))
  have HC1 := Lib.hid (i_Cols hT b3.1 b3.2)
  have HC2 := Lib.hid (i_Cols hU b3.1 b3.2)
  obtain ⟨L1, hL1⟩ : ∃ L : Nat, (151 - T.first).toNat = L := ⟨_, rfl⟩
  obtain ⟨L2, hL2⟩ : ∃ L : Nat, (151 - U.first).toNat = L := ⟨_, rfl⟩
  have i1 : IntKind.i64.wrap (T.first + i - T.first) = i := by rw [IntWalk.i64_in _ (by omega)]; omega
  have i2 : IntKind.i64.wrap (U.first + j - U.first) = j := by rw [IntWalk.i64_in _ (by omega)]; omega
  have g1 : (i : Int) < L1 := by omega
  have g2 : (j : Int) < L2 := by omega
  have g3 : (0 : Int) ≤ i := by omega
  have g4 : (0 : Int) ≤ j := by omega
  have g5 : i < (151 - T.first).toNat := by omega
  have g6 : j < (151 - U.first).toNat := by omega
  have G5 := Lib.hid g5
  have G6 := Lib.hid g6
  have HL1 := Lib.hid hL1
  have HL2 := Lib.hid hL2
  clear h1 h2 g5 g6 hL1 hL2 hI hI2
  go_enter Try.func241, Try.ntmps241
  go_upto_region 5 with (first | (go_at_call 142; refine (s_In _ _ _ _).mono ?_; rintro e w' ⟨rfl, rfl⟩) | (go_at_call 186; refine (i_In _ _ _ _).mono ?_; rintro e w' ⟨rfl, rfl⟩) | (go_at_call 222; refine (s_Rate _ _).mono ?_; rintro e w' ⟨rfl, rfl⟩) | (go_at_call 165; refine (i_Rate _ _).mono ?_; rintro e w' ⟨rfl, rfl⟩) | (go_at_call 262; refine (i_Years _ _).mono ?_; rintro e w' ⟨rfl, rfl⟩) | (go_at_call 227; refine (s_Amount6 _ _).mono ?_; rintro e w' ⟨rfl, rfl⟩) | (go_at_call 236; refine (s_Sum7 _ _).mono ?_; rintro e w' ⟨rfl, rfl⟩) | (go_at_call 74; ((with_reducible refine (HT.out _ _ (hv'.up (by repeat' (first | (with_reducible exact Up.refl _) | (with_reducible assumption) | (with_reducible refine Up.alloc ?_ _) | (with_reducible refine Up.drew ?_) | (with_reducible refine Up.grow ?_ _) | (with_reducible refine Up.setCell ?_ (by (try simp); (try omega)) _))))).mono ?_); rintro e w' ⟨rfl, hb⟩; first | (obtain ⟨x, rfl⟩ := Grow.on x hb) | (obtain ⟨x, rfl⟩ := Grow.mk' hb))) | (go_at_call 74; ((with_reducible refine (HU.out _ _ (hu'.up (by repeat' (first | (with_reducible exact Up.refl _) | (with_reducible assumption) | (with_reducible refine Up.alloc ?_ _) | (with_reducible refine Up.drew ?_) | (with_reducible refine Up.grow ?_ _) | (with_reducible refine Up.setCell ?_ (by (try simp); (try omega)) _))))).mono ?_); rintro e w' ⟨rfl, hb⟩; first | (obtain ⟨x, rfl⟩ := Grow.on x hb) | (obtain ⟨x, rfl⟩ := Grow.mk' hb))) | (go_at_call 257; refine (HP.out _ _ _ (hv'.up (by repeat' (first | (with_reducible exact Up.refl _) | (with_reducible assumption) | (with_reducible refine Up.alloc ?_ _) | (with_reducible refine Up.drew ?_) | (with_reducible refine Up.grow ?_ _) | (with_reducible refine Up.setCell ?_ (by (try simp); (try omega)) _)))) (hu'.up (by repeat' (first | (with_reducible exact Up.refl _) | (with_reducible assumption) | (with_reducible refine Up.alloc ?_ _) | (with_reducible refine Up.drew ?_) | (with_reducible refine Up.grow ?_ _) | (with_reducible refine Up.setCell ?_ (by (try simp); (try omega)) _))))).mono ?_; rintro e w' ⟨rfl, hb⟩; first | (obtain ⟨x, rfl⟩ := Grow.on x hb) | (obtain ⟨x, rfl⟩ := Grow.mk' hb)))
  go_region_with (first
    | (go_at_call 197; ((with_reducible refine (HC1.out _ _ (hv'.up (by repeat' (first | (with_reducible exact Up.refl _) | (with_reducible assumption) | (with_reducible refine Up.alloc ?_ _) | (with_reducible refine Up.drew ?_) | (with_reducible refine Up.grow ?_ _) | (with_reducible refine Up.setCell ?_ (by (try simp); (try omega)) _))))).mono ?_); rintro e w6 ⟨v5, rfl, hb6, ga, cs, rfl, hg, hcs⟩; rw [HL1.out]; obtain ⟨a0, _, _, _⟩ := row_at hg (hcs i G5.out); have ia := hg.inw; clear hcs; have hb6 := (Up.drew (Up.refl x.to)).trans hb6; obtain ⟨y, rfl⟩ := Grow.on x hb6))
    | (go_at_call 197; ((with_reducible refine (HC2.out _ _ (hu'.up (by repeat' (first | (with_reducible exact Up.refl _) | (with_reducible assumption) | (with_reducible refine Up.alloc ?_ _) | (with_reducible refine Up.drew ?_) | (with_reducible refine Up.grow ?_ _) | (with_reducible refine Up.setCell ?_ (by (try simp); (try omega)) _))))).mono ?_); rintro e w7 ⟨v6, rfl, hb7, gb, cs2, rfl, hg2, hcs2⟩; rw [HL2.out]; obtain ⟨c0, _, _, _⟩ := row_at hg2 (hcs2 j G6.out); have ib := hg2.inw; clear hcs2; obtain ⟨z, rfl⟩ := Grow.on y hb7)))
  all_goals
    go_wp2
    go_ret
    exact ⟨rfl, (by repeat' (first | (with_reducible exact Up.refl _) | (with_reducible assumption) | (with_reducible refine Up.alloc ?_ _) | (with_reducible refine Up.drew ?_) | (with_reducible refine Up.grow ?_ _) | (with_reducible refine Up.setCell ?_ (by (try simp); (try omega)) _)))⟩
end Go.Proofs.Ytdeoampkbbbleaa
