/- The draws of a year of a fund and of a rate. Condition: a source made since W; a code of at most 4096 bytes. -/
import Derived.Test.YtdeoampkbbbleaaSur
import Derived.Test.YtdeoampkbbbleaaDrawR
import Derived.Test.YtdeoampkbbbleaaDrawS
namespace Go.Proofs.Ytdeoampkbbbleaa
open Go.RowKit Pu
set_option linter.unusedVariables false
set_option linter.unusedSimpArgs false

/-- The year's cells. -/
abbrev Yr.cs (y : Yr) : Array Value := #[.int .i64 y.a0, .int .i64 y.a1, .int .i64 y.a2, .int .i64 y.a3, .int .i64 y.a4, .int .i64 y.a5, .int .i64 y.a6]
/-- The memory of l18Draw: the source, the year in its box, the result. -/
structure DY (W w wr : World) (b bR bT : Nat) (y : Yr) : Prop where
  src : Src W wr b
  gb : Gb b w wr
  box : Blk wr bT 53 y.cs
  res : Blk wr bR 53 #[.int .i64 0, .int .i64 0, .int .i64 0, .int .i64 0, .int .i64 0, .int .i64 0, .int .i64 0]
  lw : W.heap.size ≤ w.heap.size
  lR : w.heap.size ≤ bR
  lT : w.heap.size ≤ bT
  nT : bT ≠ b
  nR : bR ≠ b
  nRT : bR ≠ bT
theorem DY.on {W w wr w2 : World} {b bR bT : Nat} {y : Yr} (h : DY W w wr b bR bT y) (k : Gb b wr w2) (s : Src W w2 b) : DY W w w2 b bR bT y :=
  { h with src := s, gb := h.gb.trans k, box := h.box.gb h.nT k, res := h.res.gb h.nR k }
theorem DY.up {W w wr w2 : World} {b bR bT : Nat} {y : Yr} (h : DY W w wr b bR bT y) (u : Up wr w2) : DY W w w2 b bR bT y := h.on (Gb.of u) (h.src.up u)
theorem DY.set {W w wr : World} {b bR bT : Nat} {y : Yr} (h : DY W w wr b bR bT y) (i : Nat) (u : Int) (y' : Yr) (e : y.cs.setIfInBounds i (.int .i64 u) = y'.cs) : DY W w (wr.setCell ⟨bT, i, none⟩ (.int .i64 u)) b bR bT y' := by
  have l1 := h.lw; have l2 := h.lT
  exact { h with src := h.src.set (p := ⟨bT, i, none⟩) (Nat.le_trans l1 l2) h.nT _, gb := h.gb.set (p := ⟨bT, i, none⟩) (Or.inr l2) _, box := by rw [← e]; exact h.box.same i _, res := h.res.other (p := ⟨bT, i, none⟩) (fun e => h.nRT e.symm) _ }
/-- A year is drawn. -/
def RetY (W w : World) (b : Nat) (e : Ending) (w' : World) : Prop := ∃ y : Yr, e = .returned y.v ∧ Gb b w w' ∧ Src W w' b ∧ y.Bd
theorem DY.fin {W w wr : World} {b bR bT : Nat} {y : Yr} (h : DY W w wr b bR bT y) (hy : y.Bd) (u0 u1 u2 u3 u4 u5 u6 : Value) :
    RetY W w b (.returned y.v) (((((((wr.setCell ⟨bR, 0, none⟩ u0).setCell ⟨bR, 1, none⟩ u1).setCell ⟨bR, 2, none⟩ u2).setCell ⟨bR, 3, none⟩ u3).setCell ⟨bR, 4, none⟩ u4).setCell ⟨bR, 5, none⟩ u5).setCell ⟨bR, 6, none⟩ u6) := by
  have l1 := h.lw; have l2 := h.lR; have hn := h.nR
  have S (i : Nat) (u : Value) (x : World) (hx : Gb b w x ∧ Src W x b) : Gb b w (x.setCell ⟨bR, i, none⟩ u) ∧ Src W (x.setCell ⟨bR, i, none⟩ u) b :=
    ⟨hx.1.set (p := ⟨bR, i, none⟩) (Or.inr l2) _, hx.2.set (p := ⟨bR, i, none⟩) (Nat.le_trans l1 l2) hn _⟩
  obtain ⟨e1, e2⟩ := S 6 u6 _ (S 5 u5 _ (S 4 u4 _ (S 3 u3 _ (S 2 u2 _ (S 1 u1 _ (S 0 u0 _ ⟨h.gb, h.src⟩))))))
  exact ⟨y, rfl, e1, e2, hy⟩
set_option maxRecDepth 100000 in
set_option maxHeartbeats 4000000 in
theorem s_Draw18 {W : World} {b : Nat} (w : World) (h : Src W w b) : Calls Try.prog 163 #[.pointer (some ⟨b, 0, none⟩)] w (RetY W w b) := by
  have hbw := h.inw
  have hWw := h.ups.size
  have hR := Blk.new w 53 #[.int .i64 0, .int .i64 0, .int .i64 0, .int .i64 0, .int .i64 0, .int .i64 0, .int .i64 0]
  have hs := h.up (Up.alloc (Up.refl w) (.cells #[.int .i64 0, .int .i64 0, .int .i64 0, .int .i64 0, .int .i64 0, .int .i64 0, .int .i64 0] 53))
  have hg := (Gb.refl b w).alloc (.cells #[.int .i64 0, .int .i64 0, .int .i64 0, .int .i64 0, .int .i64 0, .int .i64 0, .int .i64 0] 53)
  have hz0 := World.size_alloc w (.cells #[.int .i64 0, .int .i64 0, .int .i64 0, .int .i64 0, .int .i64 0, .int .i64 0, .int .i64 0] 53)
  have hne : w.heap.size ≠ b := by omega
  go_enter Try.func163, Try.ntmps163
  go_upto_region 1 with (fail)
  generalize w.alloc (.cells #[.int .i64 0, .int .i64 0, .int .i64 0, .int .i64 0, .int .i64 0, .int .i64 0, .int .i64 0] 53) = w1 at *
  go_upto_region 2 with (first | (go_at_call 183; (with_reducible refine (s_Next 5000000 _ (hs.up (by repeat' (first | (with_reducible exact Up.refl _) | (with_reducible assumption) | (with_reducible refine Up.alloc ?_ _) | (with_reducible refine Up.drew ?_) | (with_reducible refine Up.grow ?_ _) | (with_reducible refine Up.setCell ?_ (by (try simp); (try omega)) _))))).mono ?_); rintro e w' ⟨y0, rfl, hz, hg1, hs⟩; have hg := (hg.up (by repeat' (first | (with_reducible exact Up.refl _) | (with_reducible assumption) | (with_reducible refine Up.alloc ?_ _) | (with_reducible refine Up.drew ?_) | (with_reducible refine Up.grow ?_ _) | (with_reducible refine Up.setCell ?_ (by (try simp); (try omega)) _)))).trans hg1; have hR := (hR.up (by repeat' (first | (with_reducible exact Up.refl _) | (with_reducible assumption) | (with_reducible refine Up.alloc ?_ _) | (with_reducible refine Up.drew ?_) | (with_reducible refine Up.grow ?_ _) | (with_reducible refine Up.setCell ?_ (by (try simp); (try omega)) _)))).gb hne hg1; obtain ⟨y0_0, y0_1, _⟩ := hz; have y0_1 := y0_1 (by omega)) | (go_at_call 183; (with_reducible refine (s_Next 500000 _ (hs.up (by repeat' (first | (with_reducible exact Up.refl _) | (with_reducible assumption) | (with_reducible refine Up.alloc ?_ _) | (with_reducible refine Up.drew ?_) | (with_reducible refine Up.grow ?_ _) | (with_reducible refine Up.setCell ?_ (by (try simp); (try omega)) _))))).mono ?_); rintro e w' ⟨y1, rfl, hz, hg1, hs⟩; have hg := (hg.up (by repeat' (first | (with_reducible exact Up.refl _) | (with_reducible assumption) | (with_reducible refine Up.alloc ?_ _) | (with_reducible refine Up.drew ?_) | (with_reducible refine Up.grow ?_ _) | (with_reducible refine Up.setCell ?_ (by (try simp); (try omega)) _)))).trans hg1; have hR := (hR.up (by repeat' (first | (with_reducible exact Up.refl _) | (with_reducible assumption) | (with_reducible refine Up.alloc ?_ _) | (with_reducible refine Up.drew ?_) | (with_reducible refine Up.grow ?_ _) | (with_reducible refine Up.setCell ?_ (by (try simp); (try omega)) _)))).gb hne hg1; obtain ⟨y1_0, y1_1, _⟩ := hz; have y1_1 := y1_1 (by omega)) | (go_at_call 183; (with_reducible refine (s_Next 50000 _ (hs.up (by repeat' (first | (with_reducible exact Up.refl _) | (with_reducible assumption) | (with_reducible refine Up.alloc ?_ _) | (with_reducible refine Up.drew ?_) | (with_reducible refine Up.grow ?_ _) | (with_reducible refine Up.setCell ?_ (by (try simp); (try omega)) _))))).mono ?_); rintro e w' ⟨y2, rfl, hz, hg1, hs⟩; have hg := (hg.up (by repeat' (first | (with_reducible exact Up.refl _) | (with_reducible assumption) | (with_reducible refine Up.alloc ?_ _) | (with_reducible refine Up.drew ?_) | (with_reducible refine Up.grow ?_ _) | (with_reducible refine Up.setCell ?_ (by (try simp); (try omega)) _)))).trans hg1; have hR := (hR.up (by repeat' (first | (with_reducible exact Up.refl _) | (with_reducible assumption) | (with_reducible refine Up.alloc ?_ _) | (with_reducible refine Up.drew ?_) | (with_reducible refine Up.grow ?_ _) | (with_reducible refine Up.setCell ?_ (by (try simp); (try omega)) _)))).gb hne hg1; obtain ⟨y2_0, y2_1, _⟩ := hz; have y2_1 := y2_1 (by omega)) | (go_at_call 183; (with_reducible refine (s_Next 60000 _ (hs.up (by repeat' (first | (with_reducible exact Up.refl _) | (with_reducible assumption) | (with_reducible refine Up.alloc ?_ _) | (with_reducible refine Up.drew ?_) | (with_reducible refine Up.grow ?_ _) | (with_reducible refine Up.setCell ?_ (by (try simp); (try omega)) _))))).mono ?_); rintro e w' ⟨y3, rfl, hz, hg1, hs⟩; have hg := (hg.up (by repeat' (first | (with_reducible exact Up.refl _) | (with_reducible assumption) | (with_reducible refine Up.alloc ?_ _) | (with_reducible refine Up.drew ?_) | (with_reducible refine Up.grow ?_ _) | (with_reducible refine Up.setCell ?_ (by (try simp); (try omega)) _)))).trans hg1; have hR := (hR.up (by repeat' (first | (with_reducible exact Up.refl _) | (with_reducible assumption) | (with_reducible refine Up.alloc ?_ _) | (with_reducible refine Up.drew ?_) | (with_reducible refine Up.grow ?_ _) | (with_reducible refine Up.setCell ?_ (by (try simp); (try omega)) _)))).gb hne hg1; obtain ⟨y3_0, y3_1, _⟩ := hz; have y3_1 := y3_1 (by omega)) | (go_at_call 183; (with_reducible refine (s_Next 200000 _ (hs.up (by repeat' (first | (with_reducible exact Up.refl _) | (with_reducible assumption) | (with_reducible refine Up.alloc ?_ _) | (with_reducible refine Up.drew ?_) | (with_reducible refine Up.grow ?_ _) | (with_reducible refine Up.setCell ?_ (by (try simp); (try omega)) _))))).mono ?_); rintro e w' ⟨y4, rfl, hz, hg1, hs⟩; have hg := (hg.up (by repeat' (first | (with_reducible exact Up.refl _) | (with_reducible assumption) | (with_reducible refine Up.alloc ?_ _) | (with_reducible refine Up.drew ?_) | (with_reducible refine Up.grow ?_ _) | (with_reducible refine Up.setCell ?_ (by (try simp); (try omega)) _)))).trans hg1; have hR := (hR.up (by repeat' (first | (with_reducible exact Up.refl _) | (with_reducible assumption) | (with_reducible refine Up.alloc ?_ _) | (with_reducible refine Up.drew ?_) | (with_reducible refine Up.grow ?_ _) | (with_reducible refine Up.setCell ?_ (by (try simp); (try omega)) _)))).gb hne hg1; obtain ⟨y4_0, y4_1, _⟩ := hz; have y4_1 := y4_1 (by omega)) | (go_at_call 183; (with_reducible refine (s_Next 600000 _ (hs.up (by repeat' (first | (with_reducible exact Up.refl _) | (with_reducible assumption) | (with_reducible refine Up.alloc ?_ _) | (with_reducible refine Up.drew ?_) | (with_reducible refine Up.grow ?_ _) | (with_reducible refine Up.setCell ?_ (by (try simp); (try omega)) _))))).mono ?_); rintro e w' ⟨y5, rfl, hz, hg1, hs⟩; have hg := (hg.up (by repeat' (first | (with_reducible exact Up.refl _) | (with_reducible assumption) | (with_reducible refine Up.alloc ?_ _) | (with_reducible refine Up.drew ?_) | (with_reducible refine Up.grow ?_ _) | (with_reducible refine Up.setCell ?_ (by (try simp); (try omega)) _)))).trans hg1; have hR := (hR.up (by repeat' (first | (with_reducible exact Up.refl _) | (with_reducible assumption) | (with_reducible refine Up.alloc ?_ _) | (with_reducible refine Up.drew ?_) | (with_reducible refine Up.grow ?_ _) | (with_reducible refine Up.setCell ?_ (by (try simp); (try omega)) _)))).gb hne hg1; obtain ⟨y5_0, y5_1, _⟩ := hz; have y5_1 := y5_1 (by omega)))
  have hu : Up w' (w'.alloc (.cells #[.int .i64 y0, .int .i64 y1, .int .i64 y2, .int .i64 y3, .int .i64 y4, .int .i64 y5, .int .i64 0] 53)) := Up.alloc (Up.refl w') _
  have hD : DY W w (w'.alloc (.cells #[.int .i64 y0, .int .i64 y1, .int .i64 y2, .int .i64 y3, .int .i64 y4, .int .i64 y5, .int .i64 0] 53)) b w.heap.size w'.heap.size ⟨y0, y1, y2, y3, y4, y5, 0⟩ :=
    { src := hs.up hu, gb := hg.up hu, box := Blk.new w' _ _, res := hR.up hu, lw := hWw, lR := Nat.le_refl _, lT := hg.size, nT := by have := hs.inw; omega, nR := hne, nRT := by have h1 := hR.inw; unfold InW at h1; omega }
  have m1 := hD.nRT
  have m2 : ¬ w'.heap.size = w.heap.size := fun e => hD.nRT e.symm
  have hB : (⟨y0, y1, y2, y3, y4, y5, 0⟩ : Yr).Bd := by unfold Yr.Bd; simp only; omega
  have hFb : -3000000 ≤ (⟨y0, y1, y2, y3, y4, y5, 0⟩ : Yr).fin ∧ (⟨y0, y1, y2, y3, y4, y5, 0⟩ : Yr).fin ≤ 6000000 := by unfold Yr.fin; simp only; omega
  have HE := Lib.hid (s_End18 ⟨y0, y1, y2, y3, y4, y5, 0⟩ hB)
  generalize (⟨y0, y1, y2, y3, y4, y5, 0⟩ : Yr).fin = F at *
  simp only [Yr.v] at HE
  generalize w'.alloc (.cells #[.int .i64 y0, .int .i64 y1, .int .i64 y2, .int .i64 y3, .int .i64 y4, .int .i64 y5, .int .i64 0] 53) = w8 at *
  generalize w'.heap.size = bT at *
  have hB := Lib.hid hB
  clear hu
  have q0 := hD.box.cell 0; have q1 := hD.box.cell 1; have q2 := hD.box.cell 2; have q3 := hD.box.cell 3; have q4 := hD.box.cell 4; have q5 := hD.box.cell 5; have q6 := hD.box.cell 6; have qf := hD.box.frozen; have qi := hD.box.inw
  have p0 := hD.res.cell 0; have p1 := hD.res.cell 1; have p2 := hD.res.cell 2; have p3 := hD.res.cell 3; have p4 := hD.res.cell 4; have p5 := hD.res.cell 5; have p6 := hD.res.cell 6; have pf := hD.res.frozen; have pi_ := hD.res.inw
  go_upto_region 3 with (first
    | (go_at_call 171; (with_reducible refine (HE.out _).mono ?_); rintro e w9 ⟨rfl, hb9⟩; have hD := hD.up hb9; have q0 := hD.box.cell 0; have q1 := hD.box.cell 1; have q2 := hD.box.cell 2; have q3 := hD.box.cell 3; have q4 := hD.box.cell 4; have q5 := hD.box.cell 5; have q6 := hD.box.cell 6; have qf := hD.box.frozen; have qi := hD.box.inw)
    | (go_at_call 183; (with_reducible refine (s_Next 200000 _ hD.src).mono ?_); rintro e wA ⟨z, rfl, hz, hg1, hs1⟩; have hD := hD.on hg1 hs1; have q0 := hD.box.cell 0; have q1 := hD.box.cell 1; have q2 := hD.box.cell 2; have q3 := hD.box.cell 3; have q4 := hD.box.cell 4; have q5 := hD.box.cell 5; have q6 := hD.box.cell 6; have qf := hD.box.frozen; have qi := hD.box.inw; have zb0 := hz.1; have zb1 := hz.2.1 (by omega); have zi : IntKind.i64.wrap (F + z) = F + z := IntWalk.i64_in _ (by omega); have zj : IntKind.i64.wrap (F + z - 100000) = F + z - 100000 := IntWalk.i64_in _ (by omega); obtain ⟨y6, hy6⟩ : ∃ y6, (if 100000 < F + z then F + z - 100000 else 0) = y6 := ⟨_, rfl⟩; have y6b : 0 ≤ y6 ∧ y6 ≤ 10000000 := (by rw [← hy6]; split <;> omega)))
  have hD := hD.set 6 y6 ⟨y0, y1, y2, y3, y4, y5, y6⟩ rfl
  generalize wA.setCell ⟨bT, 6, none⟩ (.int .i64 y6) = wB at *
  clear q0 q1 q2 q3 q4 q5 q6 qf qi p0 p1 p2 p3 p4 p5 p6 pf pi_
  clear hy6 hz hg1 hs1
  have hB : (⟨y0, y1, y2, y3, y4, y5, y6⟩ : Yr).Bd := by unfold Yr.Bd; simp only; omega
  replace hB := Lib.hid hB
  have j1 : IntKind.i64.wrap (y0 + y1) = y0 + y1 := IntWalk.i64_in _ (by omega)
  have j2 : IntKind.i64.wrap (y0 + y1 + y2) = y0 + y1 + y2 := IntWalk.i64_in _ (by omega)
  have j3 : IntKind.i64.wrap (y0 + y1 + y2 + 1) = y0 + y1 + y2 + 1 := IntWalk.i64_in _ (by omega)
  obtain ⟨z3, hz3⟩ : ∃ z3, 2 * (y0 + y1 + y2 + 1) = z3 := ⟨_, rfl⟩
  have j4 : IntKind.i64.wrap (2 * (y0 + y1 + y2 + 1)) = z3 := by rw [← hz3]; exact IntWalk.i64_in _ (by omega)
  have hz3b : 0 ≤ z3 ∧ z3 ≤ 20000000 := by omega
  clear hz3
  have q0 := hD.box.cell 0; have q1 := hD.box.cell 1; have q2 := hD.box.cell 2; have q3 := hD.box.cell 3; have q4 := hD.box.cell 4; have q5 := hD.box.cell 5; have q6 := hD.box.cell 6; have qf := hD.box.frozen; have qi := hD.box.inw
  have p0 := hD.res.cell 0; have p1 := hD.res.cell 1; have p2 := hD.res.cell 2; have p3 := hD.res.cell 3; have p4 := hD.res.cell 4; have p5 := hD.res.cell 5; have p6 := hD.res.cell 6; have pf := hD.res.frozen; have pi_ := hD.res.inw
  go_upto_region 4 with (go_at_call 183; (with_reducible refine (s_Next 40 _ hD.src).mono ?_); rintro e wC ⟨z, rfl, hz, hg1, hs1⟩; have hD := hD.on hg1 hs1)
  clear q0 q1 q2 q3 q4 q5 q6 qf qi p0 p1 p2 p3 p4 p5 p6 pf pi_
  have q0 := hD.box.cell 0; have q1 := hD.box.cell 1; have q2 := hD.box.cell 2; have q3 := hD.box.cell 3; have q4 := hD.box.cell 4; have q5 := hD.box.cell 5; have q6 := hD.box.cell 6; have qf := hD.box.frozen; have qi := hD.box.inw
  have p0 := hD.res.cell 0; have p1 := hD.res.cell 1; have p2 := hD.res.cell 2; have p3 := hD.res.cell 3; have p4 := hD.res.cell 4; have p5 := hD.res.cell 5; have p6 := hD.res.cell 6; have pf := hD.res.frozen; have pi_ := hD.res.inw
  clear hg1 hs1 hz
  by_cases k0 : z = 0
  · subst k0
    go_upto_region 10 with (go_at_call 185; (with_reducible refine (s_Pick [-1, 1000000000000, 1000000000001] 3 rfl (by omega) (by omega) #[.int .i64 (-1), .int .i64 1000000000000, .int .i64 1000000000001] rfl _ _ (hD.src.up (by repeat' (first | (with_reducible exact Up.refl _) | (with_reducible assumption) | (with_reducible refine Up.alloc ?_ _) | (with_reducible refine Up.drew ?_) | (with_reducible refine Up.grow ?_ _) | (with_reducible refine Up.setCell ?_ (by (try simp); (try omega)) _)))) (by simpa only [World.size_alloc] using Blk.new _ _ _) (by have h1 := hD.src.inw; omega)).mono ?_); rintro e wD ⟨zp, rfl, hzp, hg1, hs1⟩; have hD := hD.on ((Gb.of (by repeat' (first | (with_reducible exact Up.refl _) | (with_reducible assumption) | (with_reducible refine Up.alloc ?_ _) | (with_reducible refine Up.drew ?_) | (with_reducible refine Up.grow ?_ _) | (with_reducible refine Up.setCell ?_ (by (try simp); (try omega)) _)))).trans hg1) hs1; (have q0 := hD.box.cell 0); (have q1 := hD.box.cell 1); (have q2 := hD.box.cell 2); (have q3 := hD.box.cell 3); (have q4 := hD.box.cell 4); (have q5 := hD.box.cell 5); (have q6 := hD.box.cell 6); (have qf := hD.box.frozen); (have qi := hD.box.inw); (have p0 := hD.res.cell 0); (have p1 := hD.res.cell 1); (have p2 := hD.res.cell 2); (have p3 := hD.res.cell 3); (have p4 := hD.res.cell 4); (have p5 := hD.res.cell 5); (have p6 := hD.res.cell 6); (have pf := hD.res.frozen); (have pi_ := hD.res.inw))
    have hD := hD.set 0 zp ⟨zp, y1, y2, y3, y4, y5, y6⟩ rfl
    have hy : (⟨zp, y1, y2, y3, y4, y5, y6⟩ : Yr).Bd := by have h1 := hB.out; unfold Yr.Bd at *; simp only at *; simp at hzp; omega
    generalize wD.setCell ⟨bT, 0, none⟩ (.int .i64 zp) = wE at *
    (have q0 := hD.box.cell 0); (have q1 := hD.box.cell 1); (have q2 := hD.box.cell 2); (have q3 := hD.box.cell 3); (have q4 := hD.box.cell 4); (have q5 := hD.box.cell 5); (have q6 := hD.box.cell 6); (have qf := hD.box.frozen); (have qi := hD.box.inw); (have p0 := hD.res.cell 0); (have p1 := hD.res.cell 1); (have p2 := hD.res.cell 2); (have p3 := hD.res.cell 3); (have p4 := hD.res.cell 4); (have p5 := hD.res.cell 5); (have p6 := hD.res.cell 6); (have pf := hD.res.frozen); (have pi_ := hD.res.inw)
    go_wp2
    refine bodyPost_ret (v := (⟨zp, y1, y2, y3, y4, y5, y6⟩ : Yr).v) (by simp [results, Try.results163, go_sem, p0, p1, p2, p3, p4, p5, p6, pf, pi_, m1, m2, Yr.v]) rfl ?_
    exact hD.fin hy _ _ _ _ _ _ _
  have k0' : (z == 0) = false := by simpa using k0
  by_cases k1 : z = 1
  · subst k1
    go_upto_region 10 with (go_at_call 185; (with_reducible refine (s_Pick [-1, 1000000000000, 1000000000001] 3 rfl (by omega) (by omega) #[.int .i64 (-1), .int .i64 1000000000000, .int .i64 1000000000001] rfl _ _ (hD.src.up (by repeat' (first | (with_reducible exact Up.refl _) | (with_reducible assumption) | (with_reducible refine Up.alloc ?_ _) | (with_reducible refine Up.drew ?_) | (with_reducible refine Up.grow ?_ _) | (with_reducible refine Up.setCell ?_ (by (try simp); (try omega)) _)))) (by simpa only [World.size_alloc] using Blk.new _ _ _) (by have h1 := hD.src.inw; omega)).mono ?_); rintro e wD ⟨zp, rfl, hzp, hg1, hs1⟩; have hD := hD.on ((Gb.of (by repeat' (first | (with_reducible exact Up.refl _) | (with_reducible assumption) | (with_reducible refine Up.alloc ?_ _) | (with_reducible refine Up.drew ?_) | (with_reducible refine Up.grow ?_ _) | (with_reducible refine Up.setCell ?_ (by (try simp); (try omega)) _)))).trans hg1) hs1; (have q0 := hD.box.cell 0); (have q1 := hD.box.cell 1); (have q2 := hD.box.cell 2); (have q3 := hD.box.cell 3); (have q4 := hD.box.cell 4); (have q5 := hD.box.cell 5); (have q6 := hD.box.cell 6); (have qf := hD.box.frozen); (have qi := hD.box.inw); (have p0 := hD.res.cell 0); (have p1 := hD.res.cell 1); (have p2 := hD.res.cell 2); (have p3 := hD.res.cell 3); (have p4 := hD.res.cell 4); (have p5 := hD.res.cell 5); (have p6 := hD.res.cell 6); (have pf := hD.res.frozen); (have pi_ := hD.res.inw))
    have hD := hD.set 5 zp ⟨y0, y1, y2, y3, y4, zp, y6⟩ rfl
    have hy : (⟨y0, y1, y2, y3, y4, zp, y6⟩ : Yr).Bd := by have h1 := hB.out; unfold Yr.Bd at *; simp only at *; simp at hzp; omega
    generalize wD.setCell ⟨bT, 5, none⟩ (.int .i64 zp) = wE at *
    (have q0 := hD.box.cell 0); (have q1 := hD.box.cell 1); (have q2 := hD.box.cell 2); (have q3 := hD.box.cell 3); (have q4 := hD.box.cell 4); (have q5 := hD.box.cell 5); (have q6 := hD.box.cell 6); (have qf := hD.box.frozen); (have qi := hD.box.inw); (have p0 := hD.res.cell 0); (have p1 := hD.res.cell 1); (have p2 := hD.res.cell 2); (have p3 := hD.res.cell 3); (have p4 := hD.res.cell 4); (have p5 := hD.res.cell 5); (have p6 := hD.res.cell 6); (have pf := hD.res.frozen); (have pi_ := hD.res.inw)
    go_wp2
    refine bodyPost_ret (v := (⟨y0, y1, y2, y3, y4, zp, y6⟩ : Yr).v) (by simp [results, Try.results163, go_sem, p0, p1, p2, p3, p4, p5, p6, pf, pi_, m1, m2, Yr.v]) rfl ?_
    exact hD.fin hy _ _ _ _ _ _ _
  have k1' : (z == 1) = false := by simpa using k1
  by_cases k2 : z = 2
  · subst k2
    go_upto_region 10 with (fail)
    have hD := hD.set 3 z3 ⟨y0, y1, y2, z3, y4, y5, y6⟩ rfl
    have hy : (⟨y0, y1, y2, z3, y4, y5, y6⟩ : Yr).Bd := by have h1 := hB.out; unfold Yr.Bd at *; simp only at *; omega
    generalize wC.setCell ⟨bT, 3, none⟩ (.int .i64 z3) = wE at *
    (have q0 := hD.box.cell 0); (have q1 := hD.box.cell 1); (have q2 := hD.box.cell 2); (have q3 := hD.box.cell 3); (have q4 := hD.box.cell 4); (have q5 := hD.box.cell 5); (have q6 := hD.box.cell 6); (have qf := hD.box.frozen); (have qi := hD.box.inw); (have p0 := hD.res.cell 0); (have p1 := hD.res.cell 1); (have p2 := hD.res.cell 2); (have p3 := hD.res.cell 3); (have p4 := hD.res.cell 4); (have p5 := hD.res.cell 5); (have p6 := hD.res.cell 6); (have pf := hD.res.frozen); (have pi_ := hD.res.inw)
    go_wp2
    refine bodyPost_ret (v := (⟨y0, y1, y2, z3, y4, y5, y6⟩ : Yr).v) (by simp [results, Try.results163, go_sem, p0, p1, p2, p3, p4, p5, p6, pf, pi_, m1, m2, Yr.v]) rfl ?_
    exact hD.fin hy _ _ _ _ _ _ _
  have k2' : (z == 2) = false := by simpa using k2
  go_wp2
  refine bodyPost_ret (v := (⟨y0, y1, y2, y3, y4, y5, y6⟩ : Yr).v) (by simp [results, Try.results163, go_sem, p0, p1, p2, p3, p4, p5, p6, pf, pi_, m1, m2, Yr.v]) rfl ?_
  exact hD.fin hB.out _ _ _ _ _ _ _
set_option maxRecDepth 100000 in
set_option maxHeartbeats 4000000 in
theorem s_DrawSourcesOf (A0 : Option Addr) (L c0 : Nat) (hL : L ≤ 4096) (w : World) (hI : InCode w A0 L c0) :
    Calls Try.prog 39 #[.slice A0 L c0] w (fun e w' => ∃ (y : Yr) (r : Int), e = .returned (.tuple #[y.v, .int .i64 r]) ∧ Up w w' ∧ y.Bd ∧ -1 ≤ r ∧ r ≤ 201) := by
  have HI := Lib.hid hI
  go_enter Try.func39, Try.ntmps39
  go_upto_region 2 with (go_at_call 162; refine (s_FromW A0 L c0 hL _ (HI.out.up (by repeat' (first | (with_reducible exact Up.refl _) | (with_reducible assumption) | (with_reducible refine Up.alloc ?_ _) | (with_reducible refine Up.drew ?_) | (with_reducible refine Up.grow ?_ _) | (with_reducible refine Up.setCell ?_ (by (try simp); (try omega)) _))))).mono ?_; rintro e w2 ⟨b, rfl, hu2, hRb, hs⟩)
  rw [World.size_alloc] at hRb
  have hs := hs w (Up.alloc (Up.refl w) _) HI.out
  have hR : Blk w2 w.heap.size 53 #[.int .i64 0, .int .i64 0, .int .i64 0, .int .i64 0, .int .i64 0, .int .i64 0, .int .i64 0] := (Blk.new w _ _).up hu2
  have hne : w.heap.size ≠ b := by omega
  clear hu2 hI
  go_wp2_with (first
    | (go_at_call 163; (with_reducible refine (s_Draw18 _ hs).mono ?_); rintro e w3 ⟨y, rfl, hg3, hs, hy⟩; have hR := hR.gb hne hg3; simp only [Yr.v])
    | (go_at_call 164; (with_reducible refine (s_DrawRate _ hs).mono ?_); rintro e w4 ⟨r, rfl, hr, hg4, hs⟩; have hR := hR.gb hne hg4; have p0 := hR.cell 0; have p1 := hR.cell 1; have p2 := hR.cell 2; have p3 := hR.cell 3; have p4 := hR.cell 4; have p5 := hR.cell 5; have p6 := hR.cell 6; have pf := hR.frozen; have pi_ := hR.inw))
  refine bodyPost_ret (v := .tuple #[y.v, .int .i64 r]) (by simp [results, Try.results39, go_sem, p0, p1, p2, p3, p4, p5, p6, pf, pi_, Yr.v]) rfl ?_
  have S (i : Nat) (u : Value) (x : World) (hx : Up w x) : Up w (x.setCell ⟨w.heap.size, i, none⟩ u) := hx.setCell (p := ⟨w.heap.size, i, none⟩) (Nat.le_refl _) _
  exact ⟨y, r, rfl, S 6 _ _ (S 5 _ _ (S 4 _ _ (S 3 _ _ (S 2 _ _ (S 1 _ _ (S 0 _ _ hs.ups)))))), hy, hr⟩
end Go.Proofs.Ytdeoampkbbbleaa
