/- The draws of two lives: l08Draw and what is drawn by it. Condition: a source made since W; a code of at most 4096 bytes. -/
import Derived.Test.YtdeoampkbbbleaaDrawX
namespace Go.Proofs.Ytdeoampkbbbleaa
open Go.RowKit Pu
set_option linter.unusedVariables false
set_option linter.unusedSimpArgs false

/-- The source at b, two tables of the draw's own in the boxes bT, bU, the results at bR, bQ. -/
structure D2 (W w0 w1 wr : World) (b bR bQ bT bU : Nat) (T : Tab) (A : Option Addr) (c : Nat) (U : Tab) (A2 : Option Addr) (c2 : Nat) : Prop where
  src : Src W wr b
  gb : Gb b w0 wr
  own : TabOwn w1 wr T (.agg #[.int .i64 T.first, .slice A T.n c])
  own2 : TabOwn w1 wr U (.agg #[.int .i64 U.first, .slice A2 U.n c2])
  box : Blk wr bT 31 #[.int .i64 T.first, .slice A T.n c]
  box2 : Blk wr bU 31 #[.int .i64 U.first, .slice A2 U.n c2]
  res : Blk wr bR 31 #[.int .i64 0, .slice none 0 0]
  res2 : Blk wr bQ 31 #[.int .i64 0, .slice none 0 0]
  l0 : w0.heap.size ≤ bR
  l02 : w0.heap.size ≤ bQ
  lb : b < w1.heap.size
  lR : W.heap.size ≤ bR
  lQ : W.heap.size ≤ bQ
  lR1 : bR < w1.heap.size
  lQ1 : bQ < w1.heap.size
  lT : w1.heap.size ≤ bT
  lU : w1.heap.size ≤ bU
  nRQ : bR ≠ bQ
  nTU : bT ≠ bU
  nR : bR ≠ b
  nQ : bQ ≠ b
section
variable {W w0 w1 wr : World} {b bR bQ bT bU : Nat} {T U : Tab} {A A2 : Option Addr} {c c2 : Nat}
theorem D2.on {w2 : World} (h : D2 W w0 w1 wr b bR bQ bT bU T A c U A2 c2) (k : Gb b wr w2) (s : Src W w2 b) : D2 W w0 w1 w2 b bR bQ bT bU T A c U A2 c2 := by
  have e1 := h.lb; have e2 := h.lT; have e3 := h.lU
  exact { h with src := s, gb := h.gb.trans k, own := h.own.gb h.lb k, own2 := h.own2.gb h.lb k, box := h.box.gb (by omega) k, box2 := h.box2.gb (by omega) k, res := h.res.gb h.nR k, res2 := h.res2.gb h.nQ k }
theorem D2.up {w2 : World} (h : D2 W w0 w1 wr b bR bQ bT bU T A c U A2 c2) (u : Up wr w2) : D2 W w0 w1 w2 b bR bQ bT bU T A c U A2 c2 := h.on (Gb.of u) (h.src.up u)
theorem D2.age1 (h : D2 W w0 w1 wr b bR bQ bT bU T A c U A2 c2) (hf : -1 ≤ T.first ∧ T.first ≤ 101) (hn : 2 ≤ T.n ∧ T.n ≤ 27) :
    Calls Try.prog 184 #[.pointer (some ⟨b, 0, none⟩), .agg #[.int .i64 T.first, .slice A T.n c]] wr (RetDraw W wr b (fun _ => True)) :=
  s_DrawAge T hf hn _ _ h.src h.own.tab (fun w' g => (h.own.gb h.lb g).tab)
theorem D2.age2 (h : D2 W w0 w1 wr b bR bQ bT bU T A c U A2 c2) (hf : -1 ≤ U.first ∧ U.first ≤ 101) (hn : 2 ≤ U.n ∧ U.n ≤ 27) :
    Calls Try.prog 184 #[.pointer (some ⟨b, 0, none⟩), .agg #[.int .i64 U.first, .slice A2 U.n c2]] wr (RetDraw W wr b (fun _ => True)) :=
  s_DrawAge U hf hn _ _ h.src h.own2.tab (fun w' g => (h.own2.gb h.lb g).tab)
/-- The tables are copied into the results. -/
theorem D2.fin (h : D2 W w0 w1 wr b bR bQ bT bU T A c U A2 c2) (hw : w0.heap.size ≤ w1.heap.size) (u0 u1 u2 u3 : Value) :
    Gb b w0 ((((wr.setCell ⟨bR, 0, none⟩ u0).setCell ⟨bR, 1, none⟩ u1).setCell ⟨bQ, 0, none⟩ u2).setCell ⟨bQ, 1, none⟩ u3) ∧ Src W ((((wr.setCell ⟨bR, 0, none⟩ u0).setCell ⟨bR, 1, none⟩ u1).setCell ⟨bQ, 0, none⟩ u2).setCell ⟨bQ, 1, none⟩ u3) b ∧
    TabOwn w0 ((((wr.setCell ⟨bR, 0, none⟩ u0).setCell ⟨bR, 1, none⟩ u1).setCell ⟨bQ, 0, none⟩ u2).setCell ⟨bQ, 1, none⟩ u3) T (.agg #[.int .i64 T.first, .slice A T.n c]) ∧
    TabOwn w0 ((((wr.setCell ⟨bR, 0, none⟩ u0).setCell ⟨bR, 1, none⟩ u1).setCell ⟨bQ, 0, none⟩ u2).setCell ⟨bQ, 1, none⟩ u3) U (.agg #[.int .i64 U.first, .slice A2 U.n c2]) := by
  have l1 := h.lR; have l2 := h.lR1; have l3 := h.lQ; have l4 := h.lQ1
  refine ⟨gb_set2 (gb_set2 h.gb h.l0 _ _) h.l02 _ _, (((h.src.set (p := ⟨bR, 0, none⟩) l1 h.nR _).set (p := ⟨bR, 1, none⟩) l1 h.nR _).set (p := ⟨bQ, 0, none⟩) l3 h.nQ _).set (p := ⟨bQ, 1, none⟩) l3 h.nQ _, ?_, ?_⟩
  · exact ((((h.own.set_old (a := ⟨bR, 0, none⟩) l2 _).set_old (a := ⟨bR, 1, none⟩) l2 _).set_old (a := ⟨bQ, 0, none⟩) l4 _).set_old (a := ⟨bQ, 1, none⟩) l4 _).base hw
  · exact ((((h.own2.set_old (a := ⟨bR, 0, none⟩) l2 _).set_old (a := ⟨bR, 1, none⟩) l2 _).set_old (a := ⟨bQ, 0, none⟩) l4 _).set_old (a := ⟨bQ, 1, none⟩) l4 _).base hw
theorem D2.neq (h : D2 W w0 w1 wr b bR bQ bT bU T A c U A2 c2) : (¬ bR = bT ∧ ¬ bT = bR) ∧ (¬ bR = bU ∧ ¬ bU = bR) ∧ (¬ bQ = bT ∧ ¬ bT = bQ) ∧ (¬ bQ = bU ∧ ¬ bU = bQ) ∧ (¬ bR = bQ ∧ ¬ bQ = bR) ∧ (¬ bT = bU ∧ ¬ bU = bT) := by
  have := h.lR1; have := h.lQ1; have := h.lT; have := h.lU; have := h.nRQ; have := h.nTU; omega
end
/-- Two tables and two ages are drawn. -/
def RetD8 (W w : World) (b : Nat) (e : Ending) (w' : World) : Prop := ∃ T A c U A2 c2, ∃ x y : Int, e = .returned (.tuple #[.agg #[.int .i64 T.first, .slice A T.n c], .int .i64 x, .agg #[.int .i64 U.first, .slice A2 U.n c2], .int .i64 y]) ∧ Gb b w w' ∧ Src W w' b ∧ TabOwn w w' T (.agg #[.int .i64 T.first, .slice A T.n c]) ∧ TabOwn w w' U (.agg #[.int .i64 U.first, .slice A2 U.n c2])
set_option maxRecDepth 100000 in
set_option maxHeartbeats 8000000 in
theorem s_Draw8 {W : World} {b : Nat} (w : World) (h : Src W w b) : Calls Try.prog 188 #[.pointer (some ⟨b, 0, none⟩)] w (RetD8 W w b) := by
  have hbw := h.inw
  have hWw := h.ups.size
  have hu0 : Up w ((w.alloc (.cells #[.int .i64 0, .slice none 0 0] 31)).alloc (.cells #[.int .i64 0, .slice none 0 0] 31)) := (by repeat' (first | (with_reducible exact Up.refl _) | (with_reducible assumption) | (with_reducible refine Up.alloc ?_ _) | (with_reducible refine Up.drew ?_) | (with_reducible refine Up.grow ?_ _) | (with_reducible refine Up.setCell ?_ (by (try simp); (try omega)) _)))
  have hR : Blk ((w.alloc (.cells #[.int .i64 0, .slice none 0 0] 31)).alloc (.cells #[.int .i64 0, .slice none 0 0] 31)) w.heap.size 31 #[.int .i64 0, .slice none 0 0] := (Blk.new _ _ _).alloc _
  have hQ : Blk ((w.alloc (.cells #[.int .i64 0, .slice none 0 0] 31)).alloc (.cells #[.int .i64 0, .slice none 0 0] 31)) (w.heap.size + 1) 31 #[.int .i64 0, .slice none 0 0] := by
    have h := Blk.new (w.alloc (.cells #[.int .i64 0, .slice none 0 0] 31)) 31 #[.int .i64 0, .slice none 0 0]
    simpa only [World.size_alloc] using h
  have hz : ((w.alloc (.cells #[.int .i64 0, .slice none 0 0] 31)).alloc (.cells #[.int .i64 0, .slice none 0 0] 31)).heap.size = w.heap.size + 1 + 1 := by simp only [World.size_alloc]
  go_enter Try.func188, Try.ntmps188
  go_upto_region 1 with (fail)
  generalize (w.alloc (.cells #[.int .i64 0, .slice none 0 0] 31)).alloc (.cells #[.int .i64 0, .slice none 0 0] 31) = w1 at *
  have hs := h.up hu0
  have hg := (Gb.refl b w).up hu0
  obtain ⟨bQ, hbQ⟩ : ∃ q, w.heap.size + 1 = q := ⟨_, rfl⟩
  rw [hbQ] at hQ ⊢
  have hne : w.heap.size ≠ b := by omega
  have hne2 : bQ ≠ b := by omega
  clear hu0
  go_upto_region 2 with (first
    | (go_at_call 182; (with_reducible refine (s_Draw3 w1 hs).mono ?_); rintro e w2 h2; obtain ⟨T, A, c, rfl, hg2, hs2, hO, hf, hn⟩ := h2.form)
    | (go_at_call 182; (with_reducible refine (s_Draw3 _ hs2).mono ?_); rintro e w3 h3; obtain ⟨U, A2, c2, rfl, hg3, hs3, hO2, hf2, hn2⟩ := h3.form))
  have hz3 := hg3.size
  have hz2 := hg2.size
  have u4 : Up w3 ((w3.alloc (.cells #[.int .i64 T.first, .slice A T.n c] 31)).alloc (.cells #[.int .i64 U.first, .slice A2 U.n c2] 31)) := (by repeat' (first | (with_reducible exact Up.refl _) | (with_reducible assumption) | (with_reducible refine Up.alloc ?_ _) | (with_reducible refine Up.drew ?_) | (with_reducible refine Up.grow ?_ _) | (with_reducible refine Up.setCell ?_ (by (try simp); (try omega)) _)))
  have hbox2 : Blk ((w3.alloc (.cells #[.int .i64 T.first, .slice A T.n c] 31)).alloc (.cells #[.int .i64 U.first, .slice A2 U.n c2] 31)) (w3.heap.size + 1) 31 #[.int .i64 U.first, .slice A2 U.n c2] := by
    have h := Blk.new (w3.alloc (.cells #[.int .i64 T.first, .slice A T.n c] 31)) 31 #[.int .i64 U.first, .slice A2 U.n c2]
    simpa only [World.size_alloc] using h
  have hE : D2 W w w1 ((w3.alloc (.cells #[.int .i64 T.first, .slice A T.n c] 31)).alloc (.cells #[.int .i64 U.first, .slice A2 U.n c2] 31)) b w.heap.size bQ w3.heap.size (w3.heap.size + 1) T A c U A2 c2 :=
    { src := hs3.up u4, gb := ((hg.trans hg2).trans hg3).up u4, own := (hO.gb (by omega) hg3).up u4, own2 := (hO2.base hz2).up u4, box := (Blk.new w3 _ _).alloc _, box2 := hbox2, res := ((hR.gb hne hg2).gb hne hg3).up u4, res2 := ((hQ.gb hne2 hg2).gb hne2 hg3).up u4, l0 := by omega, l02 := by omega, lb := by omega, lR := by omega, lQ := by omega, lR1 := by omega, lQ1 := by omega, lT := by omega, lU := by omega, nRQ := by omega, nTU := by omega, nR := hne, nQ := hne2 }
  obtain ⟨⟨m1, m2⟩, ⟨m3, m4⟩, ⟨m5, m6⟩, ⟨m7, m8⟩, ⟨m9, m10⟩, m11, m12⟩ := hE.neq
  clear hs hg hs2 hs3 hO hO2 hR hQ u4 hbox2 hg2 hg3 hz2 hz3
  generalize (w3.alloc (.cells #[.int .i64 T.first, .slice A T.n c] 31)).alloc (.cells #[.int .i64 U.first, .slice A2 U.n c2] 31) = w4 at *
  generalize w3.heap.size + 1 = bU at *
  generalize w3.heap.size = bT at *
  (have q0 := hE.box.cell 0); (have q1 := hE.box.cell 1); (have qi := hE.box.inw); (have q2 := hE.box2.cell 0); (have q3 := hE.box2.cell 1); (have qj := hE.box2.inw); (have p0 := hE.res.cell 0); (have p1 := hE.res.cell 1); (have pf := hE.res.frozen); (have pi_ := hE.res.inw); (have p2 := hE.res2.cell 0); (have p3 := hE.res2.cell 1); (have pg := hE.res2.frozen); (have pj := hE.res2.inw)
  have hww : w.heap.size ≤ w1.heap.size := by omega
  clear hbw hWw hz hbQ hne hne2 h
  go_region_held3 (fun w' => w'.cell? ⟨bT, 0, none⟩ = some (.int .i64 T.first) ∧ w'.cell? ⟨bT, 1, none⟩ = some (.slice A T.n c) ∧ w'.cell? ⟨bU, 0, none⟩ = some (.int .i64 U.first) ∧ w'.cell? ⟨bU, 1, none⟩ = some (.slice A2 U.n c2)) ((repeat' apply And.intro) <;> go_simp)
    (first | (go_at_call 184; (with_reducible refine ((hE.up (by repeat' (first | (with_reducible exact Up.refl _) | (with_reducible assumption) | (with_reducible refine Up.alloc ?_ _) | (with_reducible refine Up.drew ?_) | (with_reducible refine Up.grow ?_ _) | (with_reducible refine Up.setCell ?_ (by (try simp); (try omega)) _)))).age1 hf hn).mono ?_); rintro e wA ⟨age, rfl, hage, hg1, hs1⟩; (have hE := hE.on ((Gb.of (by repeat' (first | (with_reducible exact Up.refl _) | (with_reducible assumption) | (with_reducible refine Up.alloc ?_ _) | (with_reducible refine Up.drew ?_) | (with_reducible refine Up.grow ?_ _) | (with_reducible refine Up.setCell ?_ (by (try simp); (try omega)) _)))).trans hg1) hs1); ((have q0 := hE.box.cell 0); (have q1 := hE.box.cell 1); (have qi := hE.box.inw); (have q2 := hE.box2.cell 0); (have q3 := hE.box2.cell 1); (have qj := hE.box2.inw); (have p0 := hE.res.cell 0); (have p1 := hE.res.cell 1); (have pf := hE.res.frozen); (have pi_ := hE.res.inw); (have p2 := hE.res2.cell 0); (have p3 := hE.res2.cell 1); (have pg := hE.res2.frozen); (have pj := hE.res2.inw))) | (go_at_call 184; (with_reducible refine ((hE.up (by repeat' (first | (with_reducible exact Up.refl _) | (with_reducible assumption) | (with_reducible refine Up.alloc ?_ _) | (with_reducible refine Up.drew ?_) | (with_reducible refine Up.grow ?_ _) | (with_reducible refine Up.setCell ?_ (by (try simp); (try omega)) _)))).age2 hf2 hn2).mono ?_); rintro e wB ⟨age2, rfl, hage2, hg1, hs1⟩; (have hE := hE.on ((Gb.of (by repeat' (first | (with_reducible exact Up.refl _) | (with_reducible assumption) | (with_reducible refine Up.alloc ?_ _) | (with_reducible refine Up.drew ?_) | (with_reducible refine Up.grow ?_ _) | (with_reducible refine Up.setCell ?_ (by (try simp); (try omega)) _)))).trans hg1) hs1); ((have q0 := hE.box.cell 0); (have q1 := hE.box.cell 1); (have qi := hE.box.inw); (have q2 := hE.box2.cell 0); (have q3 := hE.box2.cell 1); (have qj := hE.box2.inw); (have p0 := hE.res.cell 0); (have p1 := hE.res.cell 1); (have pf := hE.res.frozen); (have pi_ := hE.res.inw); (have p2 := hE.res2.cell 0); (have p3 := hE.res2.cell 1); (have pg := hE.res2.frozen); (have pj := hE.res2.inw))))
  go_wp2_with (first | (go_at_call 183; (with_reducible refine (s_Next 3 _ (hE.src.up (by repeat' (first | (with_reducible exact Up.refl _) | (with_reducible assumption) | (with_reducible refine Up.alloc ?_ _) | (with_reducible refine Up.drew ?_) | (with_reducible refine Up.grow ?_ _) | (with_reducible refine Up.setCell ?_ (by (try simp); (try omega)) _))))).mono ?_); rintro e w' ⟨z3, rfl, hz, hg1, hs1⟩; (have hE := hE.on ((Gb.of (by repeat' (first | (with_reducible exact Up.refl _) | (with_reducible assumption) | (with_reducible refine Up.alloc ?_ _) | (with_reducible refine Up.drew ?_) | (with_reducible refine Up.grow ?_ _) | (with_reducible refine Up.setCell ?_ (by (try simp); (try omega)) _)))).trans hg1) hs1); ((have q0 := hE.box.cell 0); (have q1 := hE.box.cell 1); (have qi := hE.box.inw); (have q2 := hE.box2.cell 0); (have q3 := hE.box2.cell 1); (have qj := hE.box2.inw); (have p0 := hE.res.cell 0); (have p1 := hE.res.cell 1); (have pf := hE.res.frozen); (have pi_ := hE.res.inw); (have p2 := hE.res2.cell 0); (have p3 := hE.res2.cell 1); (have pg := hE.res2.frozen); (have pj := hE.res2.inw))))
  · skip
    go_region_held3 (fun w' => w'.cell? ⟨bT, 0, none⟩ = some (.int .i64 T.first) ∧ w'.cell? ⟨bT, 1, none⟩ = some (.slice A T.n c) ∧ w'.cell? ⟨bU, 0, none⟩ = some (.int .i64 U.first) ∧ w'.cell? ⟨bU, 1, none⟩ = some (.slice A2 U.n c2)) ((repeat' apply And.intro) <;> go_simp)
      (first | (go_at_call 183; (with_reducible refine (s_Next _ _ (hE.src.up (by repeat' (first | (with_reducible exact Up.refl _) | (with_reducible assumption) | (with_reducible refine Up.alloc ?_ _) | (with_reducible refine Up.drew ?_) | (with_reducible refine Up.grow ?_ _) | (with_reducible refine Up.setCell ?_ (by (try simp); (try omega)) _))))).mono ?_); rintro e w' ⟨za, rfl, hz, hg1, hs1⟩; (have hE := hE.on ((Gb.of (by repeat' (first | (with_reducible exact Up.refl _) | (with_reducible assumption) | (with_reducible refine Up.alloc ?_ _) | (with_reducible refine Up.drew ?_) | (with_reducible refine Up.grow ?_ _) | (with_reducible refine Up.setCell ?_ (by (try simp); (try omega)) _)))).trans hg1) hs1); ((have q0 := hE.box.cell 0); (have q1 := hE.box.cell 1); (have qi := hE.box.inw); (have q2 := hE.box2.cell 0); (have q3 := hE.box2.cell 1); (have qj := hE.box2.inw); (have p0 := hE.res.cell 0); (have p1 := hE.res.cell 1); (have pf := hE.res.frozen); (have pi_ := hE.res.inw); (have p2 := hE.res2.cell 0); (have p3 := hE.res2.cell 1); (have pg := hE.res2.frozen); (have pj := hE.res2.inw))))
    go_wp2
    go_region_held3 (fun w' => w'.cell? ⟨bT, 0, none⟩ = some (.int .i64 T.first) ∧ w'.cell? ⟨bT, 1, none⟩ = some (.slice A T.n c) ∧ w'.cell? ⟨bU, 0, none⟩ = some (.int .i64 U.first) ∧ w'.cell? ⟨bU, 1, none⟩ = some (.slice A2 U.n c2)) ((repeat' apply And.intro) <;> go_simp)
      (first | (go_at_call 183; (with_reducible refine (s_Next _ _ (hE.src.up (by repeat' (first | (with_reducible exact Up.refl _) | (with_reducible assumption) | (with_reducible refine Up.alloc ?_ _) | (with_reducible refine Up.drew ?_) | (with_reducible refine Up.grow ?_ _) | (with_reducible refine Up.setCell ?_ (by (try simp); (try omega)) _))))).mono ?_); rintro e w' ⟨zb, rfl, hz, hg1, hs1⟩; (have hE := hE.on ((Gb.of (by repeat' (first | (with_reducible exact Up.refl _) | (with_reducible assumption) | (with_reducible refine Up.alloc ?_ _) | (with_reducible refine Up.drew ?_) | (with_reducible refine Up.grow ?_ _) | (with_reducible refine Up.setCell ?_ (by (try simp); (try omega)) _)))).trans hg1) hs1); ((have q0 := hE.box.cell 0); (have q1 := hE.box.cell 1); (have qi := hE.box.inw); (have q2 := hE.box2.cell 0); (have q3 := hE.box2.cell 1); (have qj := hE.box2.inw); (have p0 := hE.res.cell 0); (have p1 := hE.res.cell 1); (have pf := hE.res.frozen); (have pi_ := hE.res.inw); (have p2 := hE.res2.cell 0); (have p3 := hE.res2.cell 1); (have pg := hE.res2.frozen); (have pj := hE.res2.inw))))
    go_wp2
    go_region_held3 (fun w' => w'.cell? ⟨bT, 0, none⟩ = some (.int .i64 T.first) ∧ w'.cell? ⟨bT, 1, none⟩ = some (.slice A T.n c) ∧ w'.cell? ⟨bU, 0, none⟩ = some (.int .i64 U.first) ∧ w'.cell? ⟨bU, 1, none⟩ = some (.slice A2 U.n c2)) ((repeat' apply And.intro) <;> go_simp)
      (fail)
    go_wp2
    refine bodyPost_ret (v := .tuple #[.agg #[.int .i64 T.first, .slice A T.n c], .int .i64 _, .agg #[.int .i64 U.first, .slice A2 U.n c2], .int .i64 _]) (by simp [results, Try.results188, go_sem, p0, p1, pf, pi_, p2, p3, pg, pj, m1, m2, m3, m4, m5, m6, m7, m8, m9, m10, m11, m12] <;> exact ⟨rfl, rfl⟩) rfl ?_
    obtain ⟨e1, e2, e3, e4⟩ := hE.fin hww (.int .i64 T.first) (.slice A T.n c) (.int .i64 U.first) (.slice A2 U.n c2)
    exact ⟨T, A, c, U, A2, c2, _, _, rfl, e1.drew, e2.up (Up.drew (Up.refl _)), e3.up (Up.drew (Up.refl _)), e4.up (Up.drew (Up.refl _))⟩
  · skip
    go_region_held3 (fun w' => w'.cell? ⟨bT, 0, none⟩ = some (.int .i64 T.first) ∧ w'.cell? ⟨bT, 1, none⟩ = some (.slice A T.n c) ∧ w'.cell? ⟨bU, 0, none⟩ = some (.int .i64 U.first) ∧ w'.cell? ⟨bU, 1, none⟩ = some (.slice A2 U.n c2)) ((repeat' apply And.intro) <;> go_simp)
      (fail)
    go_wp2
    refine bodyPost_ret (v := .tuple #[.agg #[.int .i64 T.first, .slice A T.n c], .int .i64 _, .agg #[.int .i64 U.first, .slice A2 U.n c2], .int .i64 _]) (by simp [results, Try.results188, go_sem, p0, p1, pf, pi_, p2, p3, pg, pj, m1, m2, m3, m4, m5, m6, m7, m8, m9, m10, m11, m12] <;> exact ⟨rfl, rfl⟩) rfl ?_
    obtain ⟨e1, e2, e3, e4⟩ := hE.fin hww (.int .i64 T.first) (.slice A T.n c) (.int .i64 U.first) (.slice A2 U.n c2)
    exact ⟨T, A, c, U, A2, c2, _, _, rfl, e1.drew, e2.up (Up.drew (Up.refl _)), e3.up (Up.drew (Up.refl _)), e4.up (Up.drew (Up.refl _))⟩
set_option maxRecDepth 100000 in
set_option maxHeartbeats 8000000 in
theorem s_DrawJointAnnuity (A0 : Option Addr) (L c0 : Nat) (hL : L ≤ 4096) (w : World) (hI : InCode w A0 L c0) :
    Calls Try.prog 238 #[.slice A0 L c0] w (fun e w' => ∃ T A c U A2 c2, ∃ x y r m : Int, e = .returned (.tuple #[.agg #[.int .i64 T.first, .slice A T.n c], .int .i64 x, .agg #[.int .i64 U.first, .slice A2 U.n c2], .int .i64 y, .int .i64 r, .int .i64 m]) ∧ Up w w' ∧ TabOwn w w' T (.agg #[.int .i64 T.first, .slice A T.n c]) ∧ TabOwn w w' U (.agg #[.int .i64 U.first, .slice A2 U.n c2])) := by
  have HI := Lib.hid hI
  have hu0 : Up w ((w.alloc (.cells #[.int .i64 0, .slice none 0 0] 31)).alloc (.cells #[.int .i64 0, .slice none 0 0] 31)) := (by repeat' (first | (with_reducible exact Up.refl _) | (with_reducible assumption) | (with_reducible refine Up.alloc ?_ _) | (with_reducible refine Up.drew ?_) | (with_reducible refine Up.grow ?_ _) | (with_reducible refine Up.setCell ?_ (by (try simp); (try omega)) _)))
  have hR : Blk ((w.alloc (.cells #[.int .i64 0, .slice none 0 0] 31)).alloc (.cells #[.int .i64 0, .slice none 0 0] 31)) w.heap.size 31 #[.int .i64 0, .slice none 0 0] := (Blk.new _ _ _).alloc _
  have hQ : Blk ((w.alloc (.cells #[.int .i64 0, .slice none 0 0] 31)).alloc (.cells #[.int .i64 0, .slice none 0 0] 31)) (w.heap.size + 1) 31 #[.int .i64 0, .slice none 0 0] := by
    have h := Blk.new (w.alloc (.cells #[.int .i64 0, .slice none 0 0] 31)) 31 #[.int .i64 0, .slice none 0 0]
    simpa only [World.size_alloc] using h
  have hz : ((w.alloc (.cells #[.int .i64 0, .slice none 0 0] 31)).alloc (.cells #[.int .i64 0, .slice none 0 0] 31)).heap.size = w.heap.size + 1 + 1 := by simp only [World.size_alloc]
  clear hI
  go_enter Try.func238, Try.ntmps238
  go_upto_region 1 with (fail)
  generalize (w.alloc (.cells #[.int .i64 0, .slice none 0 0] 31)).alloc (.cells #[.int .i64 0, .slice none 0 0] 31) = w1 at *
  obtain ⟨bQ, hbQ⟩ : ∃ q, w.heap.size + 1 = q := ⟨_, rfl⟩
  rw [hbQ] at hQ ⊢
  go_upto_region 3 with (first
    | (go_at_call 162; refine (s_FromW A0 L c0 hL w1 (HI.out.up hu0)).mono ?_; rintro e w2 ⟨b, rfl, hu2, hRb, hs⟩)
    | (go_at_call 188; (with_reducible refine (s_Draw8 _ (hs w hu0 HI.out)).mono ?_); rintro e w3 ⟨T, A, c, U, A2, c2, x, y, rfl, hg3, hs3, hO, hO2⟩))
  have hs := hs w hu0 HI.out
  have hw12 := hu2.size
  have hb2 := hs.inw
  have hne : w.heap.size ≠ b := by omega
  have hne2 : bQ ≠ b := by omega
  have hR2 := hR.up hu2
  have hQ2 := hQ.up hu2
  have hz3 := hg3.size
  have u4 : Up w3 ((w3.alloc (.cells #[.int .i64 T.first, .slice A T.n c] 31)).alloc (.cells #[.int .i64 U.first, .slice A2 U.n c2] 31)) := (by repeat' (first | (with_reducible exact Up.refl _) | (with_reducible assumption) | (with_reducible refine Up.alloc ?_ _) | (with_reducible refine Up.drew ?_) | (with_reducible refine Up.grow ?_ _) | (with_reducible refine Up.setCell ?_ (by (try simp); (try omega)) _)))
  have hbox2 : Blk ((w3.alloc (.cells #[.int .i64 T.first, .slice A T.n c] 31)).alloc (.cells #[.int .i64 U.first, .slice A2 U.n c2] 31)) (w3.heap.size + 1) 31 #[.int .i64 U.first, .slice A2 U.n c2] := by
    have h := Blk.new (w3.alloc (.cells #[.int .i64 T.first, .slice A T.n c] 31)) 31 #[.int .i64 U.first, .slice A2 U.n c2]
    simpa only [World.size_alloc] using h
  have hE : D2 w w w2 ((w3.alloc (.cells #[.int .i64 T.first, .slice A T.n c] 31)).alloc (.cells #[.int .i64 U.first, .slice A2 U.n c2] 31)) b w.heap.size bQ w3.heap.size (w3.heap.size + 1) T A c U A2 c2 :=
    { src := hs3.up u4, gb := ((Gb.of (hu0.trans hu2)).trans hg3).up u4, own := hO.up u4, own2 := hO2.up u4, box := (Blk.new w3 _ _).alloc _, box2 := hbox2, res := (hR2.gb hne hg3).up u4, res2 := (hQ2.gb hne2 hg3).up u4, l0 := by omega, l02 := by omega, lb := hb2, lR := by omega, lQ := by omega, lR1 := by omega, lQ1 := by omega, lT := by omega, lU := by omega, nRQ := by omega, nTU := by omega, nR := hne, nQ := hne2 }
  obtain ⟨⟨m1, m2⟩, ⟨m3, m4⟩, ⟨m5, m6⟩, ⟨m7, m8⟩, ⟨m9, m10⟩, m11, m12⟩ := hE.neq
  have hww : w.heap.size ≤ w2.heap.size := by omega
  clear hs hg3 hs3 hO hO2 hR hQ hR2 hQ2 u4 hbox2 hz3 hu0 hu2 hRb hz
  generalize (w3.alloc (.cells #[.int .i64 T.first, .slice A T.n c] 31)).alloc (.cells #[.int .i64 U.first, .slice A2 U.n c2] 31) = w4 at *
  generalize w3.heap.size + 1 = bU at *
  generalize w3.heap.size = bT at *
  (have q0 := hE.box.cell 0); (have q1 := hE.box.cell 1); (have qi := hE.box.inw); (have q2 := hE.box2.cell 0); (have q3 := hE.box2.cell 1); (have qj := hE.box2.inw); (have p0 := hE.res.cell 0); (have p1 := hE.res.cell 1); (have pf := hE.res.frozen); (have pi_ := hE.res.inw); (have p2 := hE.res2.cell 0); (have p3 := hE.res2.cell 1); (have pg := hE.res2.frozen); (have pj := hE.res2.inw)
  go_region_held3 (fun w' => w'.cell? ⟨bT, 0, none⟩ = some (.int .i64 T.first) ∧ w'.cell? ⟨bT, 1, none⟩ = some (.slice A T.n c) ∧ w'.cell? ⟨bU, 0, none⟩ = some (.int .i64 U.first) ∧ w'.cell? ⟨bU, 1, none⟩ = some (.slice A2 U.n c2)) ((repeat' apply And.intro) <;> go_simp)
    (first | (go_at_call 164; (with_reducible refine (s_DrawRate _ (hE.src.up (by repeat' (first | (with_reducible exact Up.refl _) | (with_reducible assumption) | (with_reducible refine Up.alloc ?_ _) | (with_reducible refine Up.drew ?_) | (with_reducible refine Up.grow ?_ _) | (with_reducible refine Up.setCell ?_ (by (try simp); (try omega)) _))))).mono ?_); rintro e w' ⟨rt, rfl, hrt, hg1, hs1⟩; (have hE := hE.on ((Gb.of (by repeat' (first | (with_reducible exact Up.refl _) | (with_reducible assumption) | (with_reducible refine Up.alloc ?_ _) | (with_reducible refine Up.drew ?_) | (with_reducible refine Up.grow ?_ _) | (with_reducible refine Up.setCell ?_ (by (try simp); (try omega)) _)))).trans hg1) hs1); ((have q0 := hE.box.cell 0); (have q1 := hE.box.cell 1); (have qi := hE.box.inw); (have q2 := hE.box2.cell 0); (have q3 := hE.box2.cell 1); (have qj := hE.box2.inw); (have p0 := hE.res.cell 0); (have p1 := hE.res.cell 1); (have pf := hE.res.frozen); (have pi_ := hE.res.inw); (have p2 := hE.res2.cell 0); (have p3 := hE.res2.cell 1); (have pg := hE.res2.frozen); (have pj := hE.res2.inw))) | (go_at_call 224; (with_reducible refine (s_l06DrawAmount _ (hE.src.up (by repeat' (first | (with_reducible exact Up.refl _) | (with_reducible assumption) | (with_reducible refine Up.alloc ?_ _) | (with_reducible refine Up.drew ?_) | (with_reducible refine Up.grow ?_ _) | (with_reducible refine Up.setCell ?_ (by (try simp); (try omega)) _))))).mono ?_); rintro e w' ⟨amt, rfl, hamt, hg1, hs1⟩; (have hE := hE.on ((Gb.of (by repeat' (first | (with_reducible exact Up.refl _) | (with_reducible assumption) | (with_reducible refine Up.alloc ?_ _) | (with_reducible refine Up.drew ?_) | (with_reducible refine Up.grow ?_ _) | (with_reducible refine Up.setCell ?_ (by (try simp); (try omega)) _)))).trans hg1) hs1); ((have q0 := hE.box.cell 0); (have q1 := hE.box.cell 1); (have qi := hE.box.inw); (have q2 := hE.box2.cell 0); (have q3 := hE.box2.cell 1); (have qj := hE.box2.inw); (have p0 := hE.res.cell 0); (have p1 := hE.res.cell 1); (have pf := hE.res.frozen); (have pi_ := hE.res.inw); (have p2 := hE.res2.cell 0); (have p3 := hE.res2.cell 1); (have pg := hE.res2.frozen); (have pj := hE.res2.inw))))
  go_wp2
  refine bodyPost_ret (v := .tuple #[.agg #[.int .i64 T.first, .slice A T.n c], .int .i64 x, .agg #[.int .i64 U.first, .slice A2 U.n c2], .int .i64 y, .int .i64 rt, .int .i64 amt]) (by simp [results, Try.results238, go_sem, p0, p1, pf, pi_, p2, p3, pg, pj, m1, m2, m3, m4, m5, m6, m7, m8, m9, m10, m11, m12]) rfl ?_
  obtain ⟨e1, e2, e3, e4⟩ := hE.fin hww (.int .i64 T.first) (.slice A T.n c) (.int .i64 U.first) (.slice A2 U.n c2)
  first | exact ⟨T, A, c, U, A2, c2, _, _, _, _, rfl, e2.ups, e3, e4⟩ | exact ⟨T, A, c, U, A2, c2, _, _, _, _, rfl, e2.ups.drew, e3.up (Up.drew (Up.refl _)), e4.up (Up.drew (Up.refl _))⟩
set_option maxRecDepth 100000 in
set_option maxHeartbeats 8000000 in
theorem s_DrawBothAlive (A0 : Option Addr) (L c0 : Nat) (hL : L ≤ 4096) (w : World) (hI : InCode w A0 L c0) :
    Calls Try.prog 68 #[.slice A0 L c0] w (fun e w' => ∃ T A c U A2 c2, ∃ x y n : Int, e = .returned (.tuple #[.agg #[.int .i64 T.first, .slice A T.n c], .int .i64 x, .agg #[.int .i64 U.first, .slice A2 U.n c2], .int .i64 y, .int .i64 n]) ∧ Up w w' ∧ TabOwn w w' T (.agg #[.int .i64 T.first, .slice A T.n c]) ∧ TabOwn w w' U (.agg #[.int .i64 U.first, .slice A2 U.n c2])) := by
  have HI := Lib.hid hI
  have hu0 : Up w ((w.alloc (.cells #[.int .i64 0, .slice none 0 0] 31)).alloc (.cells #[.int .i64 0, .slice none 0 0] 31)) := (by repeat' (first | (with_reducible exact Up.refl _) | (with_reducible assumption) | (with_reducible refine Up.alloc ?_ _) | (with_reducible refine Up.drew ?_) | (with_reducible refine Up.grow ?_ _) | (with_reducible refine Up.setCell ?_ (by (try simp); (try omega)) _)))
  have hR : Blk ((w.alloc (.cells #[.int .i64 0, .slice none 0 0] 31)).alloc (.cells #[.int .i64 0, .slice none 0 0] 31)) w.heap.size 31 #[.int .i64 0, .slice none 0 0] := (Blk.new _ _ _).alloc _
  have hQ : Blk ((w.alloc (.cells #[.int .i64 0, .slice none 0 0] 31)).alloc (.cells #[.int .i64 0, .slice none 0 0] 31)) (w.heap.size + 1) 31 #[.int .i64 0, .slice none 0 0] := by
    have h := Blk.new (w.alloc (.cells #[.int .i64 0, .slice none 0 0] 31)) 31 #[.int .i64 0, .slice none 0 0]
    simpa only [World.size_alloc] using h
  have hz : ((w.alloc (.cells #[.int .i64 0, .slice none 0 0] 31)).alloc (.cells #[.int .i64 0, .slice none 0 0] 31)).heap.size = w.heap.size + 1 + 1 := by simp only [World.size_alloc]
  clear hI
  go_enter Try.func68, Try.ntmps68
  go_upto_region 1 with (fail)
  generalize (w.alloc (.cells #[.int .i64 0, .slice none 0 0] 31)).alloc (.cells #[.int .i64 0, .slice none 0 0] 31) = w1 at *
  obtain ⟨bQ, hbQ⟩ : ∃ q, w.heap.size + 1 = q := ⟨_, rfl⟩
  rw [hbQ] at hQ ⊢
  go_upto_region 3 with (first
    | (go_at_call 162; refine (s_FromW A0 L c0 hL w1 (HI.out.up hu0)).mono ?_; rintro e w2 ⟨b, rfl, hu2, hRb, hs⟩)
    | (go_at_call 188; (with_reducible refine (s_Draw8 _ (hs w hu0 HI.out)).mono ?_); rintro e w3 ⟨T, A, c, U, A2, c2, x, y, rfl, hg3, hs3, hO, hO2⟩))
  have hs := hs w hu0 HI.out
  have hw12 := hu2.size
  have hb2 := hs.inw
  have hne : w.heap.size ≠ b := by omega
  have hne2 : bQ ≠ b := by omega
  have hR2 := hR.up hu2
  have hQ2 := hQ.up hu2
  have hz3 := hg3.size
  have u4 : Up w3 ((w3.alloc (.cells #[.int .i64 T.first, .slice A T.n c] 31)).alloc (.cells #[.int .i64 U.first, .slice A2 U.n c2] 31)) := (by repeat' (first | (with_reducible exact Up.refl _) | (with_reducible assumption) | (with_reducible refine Up.alloc ?_ _) | (with_reducible refine Up.drew ?_) | (with_reducible refine Up.grow ?_ _) | (with_reducible refine Up.setCell ?_ (by (try simp); (try omega)) _)))
  have hbox2 : Blk ((w3.alloc (.cells #[.int .i64 T.first, .slice A T.n c] 31)).alloc (.cells #[.int .i64 U.first, .slice A2 U.n c2] 31)) (w3.heap.size + 1) 31 #[.int .i64 U.first, .slice A2 U.n c2] := by
    have h := Blk.new (w3.alloc (.cells #[.int .i64 T.first, .slice A T.n c] 31)) 31 #[.int .i64 U.first, .slice A2 U.n c2]
    simpa only [World.size_alloc] using h
  have hE : D2 w w w2 ((w3.alloc (.cells #[.int .i64 T.first, .slice A T.n c] 31)).alloc (.cells #[.int .i64 U.first, .slice A2 U.n c2] 31)) b w.heap.size bQ w3.heap.size (w3.heap.size + 1) T A c U A2 c2 :=
    { src := hs3.up u4, gb := ((Gb.of (hu0.trans hu2)).trans hg3).up u4, own := hO.up u4, own2 := hO2.up u4, box := (Blk.new w3 _ _).alloc _, box2 := hbox2, res := (hR2.gb hne hg3).up u4, res2 := (hQ2.gb hne2 hg3).up u4, l0 := by omega, l02 := by omega, lb := hb2, lR := by omega, lQ := by omega, lR1 := by omega, lQ1 := by omega, lT := by omega, lU := by omega, nRQ := by omega, nTU := by omega, nR := hne, nQ := hne2 }
  obtain ⟨⟨m1, m2⟩, ⟨m3, m4⟩, ⟨m5, m6⟩, ⟨m7, m8⟩, ⟨m9, m10⟩, m11, m12⟩ := hE.neq
  have hww : w.heap.size ≤ w2.heap.size := by omega
  clear hs hg3 hs3 hO hO2 hR hQ hR2 hQ2 u4 hbox2 hz3 hu0 hu2 hRb hz
  generalize (w3.alloc (.cells #[.int .i64 T.first, .slice A T.n c] 31)).alloc (.cells #[.int .i64 U.first, .slice A2 U.n c2] 31) = w4 at *
  generalize w3.heap.size + 1 = bU at *
  generalize w3.heap.size = bT at *
  (have q0 := hE.box.cell 0); (have q1 := hE.box.cell 1); (have qi := hE.box.inw); (have q2 := hE.box2.cell 0); (have q3 := hE.box2.cell 1); (have qj := hE.box2.inw); (have p0 := hE.res.cell 0); (have p1 := hE.res.cell 1); (have pf := hE.res.frozen); (have pi_ := hE.res.inw); (have p2 := hE.res2.cell 0); (have p3 := hE.res2.cell 1); (have pg := hE.res2.frozen); (have pj := hE.res2.inw)
  go_wp2_with (first | (go_at_call 183; (with_reducible refine (s_Next 16 _ (hE.src.up (by repeat' (first | (with_reducible exact Up.refl _) | (with_reducible assumption) | (with_reducible refine Up.alloc ?_ _) | (with_reducible refine Up.drew ?_) | (with_reducible refine Up.grow ?_ _) | (with_reducible refine Up.setCell ?_ (by (try simp); (try omega)) _))))).mono ?_); rintro e w' ⟨z, rfl, hz, hg1, hs1⟩; (have hE := hE.on ((Gb.of (by repeat' (first | (with_reducible exact Up.refl _) | (with_reducible assumption) | (with_reducible refine Up.alloc ?_ _) | (with_reducible refine Up.drew ?_) | (with_reducible refine Up.grow ?_ _) | (with_reducible refine Up.setCell ?_ (by (try simp); (try omega)) _)))).trans hg1) hs1); ((have q0 := hE.box.cell 0); (have q1 := hE.box.cell 1); (have qi := hE.box.inw); (have q2 := hE.box2.cell 0); (have q3 := hE.box2.cell 1); (have qj := hE.box2.inw); (have p0 := hE.res.cell 0); (have p1 := hE.res.cell 1); (have pf := hE.res.frozen); (have pi_ := hE.res.inw); (have p2 := hE.res2.cell 0); (have p3 := hE.res2.cell 1); (have pg := hE.res2.frozen); (have pj := hE.res2.inw))))
  · skip
    go_region_held3 (fun w' => w'.cell? ⟨bT, 0, none⟩ = some (.int .i64 T.first) ∧ w'.cell? ⟨bT, 1, none⟩ = some (.slice A T.n c) ∧ w'.cell? ⟨bU, 0, none⟩ = some (.int .i64 U.first) ∧ w'.cell? ⟨bU, 1, none⟩ = some (.slice A2 U.n c2)) ((repeat' apply And.intro) <;> go_simp)
      (first | (go_at_call 185; (with_reducible refine (s_Pick [-1, 0, 150, 151] 4 rfl (by omega) (by omega) #[.int .i64 (-1), .int .i64 (0), .int .i64 (150), .int .i64 (151)] rfl _ _ (hE.src.up (by repeat' (first | (with_reducible exact Up.refl _) | (with_reducible assumption) | (with_reducible refine Up.alloc ?_ _) | (with_reducible refine Up.drew ?_) | (with_reducible refine Up.grow ?_ _) | (with_reducible refine Up.setCell ?_ (by (try simp); (try omega)) _)))) (by first | (simpa only [World.size_alloc] using Blk.new _ _ _) | exact (Blk.new _ _ _).drew) (by have h1 := hE.src.inw; omega)).mono ?_); rintro e w' ⟨zp, rfl, hzp, hg1, hs1⟩; (have hE := hE.on ((Gb.of (by repeat' (first | (with_reducible exact Up.refl _) | (with_reducible assumption) | (with_reducible refine Up.alloc ?_ _) | (with_reducible refine Up.drew ?_) | (with_reducible refine Up.grow ?_ _) | (with_reducible refine Up.setCell ?_ (by (try simp); (try omega)) _)))).trans hg1) hs1); ((have q0 := hE.box.cell 0); (have q1 := hE.box.cell 1); (have qi := hE.box.inw); (have q2 := hE.box2.cell 0); (have q3 := hE.box2.cell 1); (have qj := hE.box2.inw); (have p0 := hE.res.cell 0); (have p1 := hE.res.cell 1); (have pf := hE.res.frozen); (have pi_ := hE.res.inw); (have p2 := hE.res2.cell 0); (have p3 := hE.res2.cell 1); (have pg := hE.res2.frozen); (have pj := hE.res2.inw))))
    go_wp2
    refine bodyPost_ret (v := .tuple #[.agg #[.int .i64 T.first, .slice A T.n c], .int .i64 x, .agg #[.int .i64 U.first, .slice A2 U.n c2], .int .i64 y, .int .i64 zp]) (by simp [results, Try.results68, go_sem, p0, p1, pf, pi_, p2, p3, pg, pj, m1, m2, m3, m4, m5, m6, m7, m8, m9, m10, m11, m12]) rfl ?_
    obtain ⟨e1, e2, e3, e4⟩ := hE.fin hww (.int .i64 T.first) (.slice A T.n c) (.int .i64 U.first) (.slice A2 U.n c2)
    first | exact ⟨T, A, c, U, A2, c2, _, _, _, rfl, e2.ups, e3, e4⟩ | exact ⟨T, A, c, U, A2, c2, _, _, _, rfl, e2.ups.drew, e3.up (Up.drew (Up.refl _)), e4.up (Up.drew (Up.refl _))⟩
  · skip
    go_region_held3 (fun w' => w'.cell? ⟨bT, 0, none⟩ = some (.int .i64 T.first) ∧ w'.cell? ⟨bT, 1, none⟩ = some (.slice A T.n c) ∧ w'.cell? ⟨bU, 0, none⟩ = some (.int .i64 U.first) ∧ w'.cell? ⟨bU, 1, none⟩ = some (.slice A2 U.n c2)) ((repeat' apply And.intro) <;> go_simp)
      (first | (go_at_call 183; (with_reducible refine (s_Next 12 _ (hE.src.up (by repeat' (first | (with_reducible exact Up.refl _) | (with_reducible assumption) | (with_reducible refine Up.alloc ?_ _) | (with_reducible refine Up.drew ?_) | (with_reducible refine Up.grow ?_ _) | (with_reducible refine Up.setCell ?_ (by (try simp); (try omega)) _))))).mono ?_); rintro e w' ⟨z, rfl, hz, hg1, hs1⟩; (have hE := hE.on ((Gb.of (by repeat' (first | (with_reducible exact Up.refl _) | (with_reducible assumption) | (with_reducible refine Up.alloc ?_ _) | (with_reducible refine Up.drew ?_) | (with_reducible refine Up.grow ?_ _) | (with_reducible refine Up.setCell ?_ (by (try simp); (try omega)) _)))).trans hg1) hs1); ((have q0 := hE.box.cell 0); (have q1 := hE.box.cell 1); (have qi := hE.box.inw); (have q2 := hE.box2.cell 0); (have q3 := hE.box2.cell 1); (have qj := hE.box2.inw); (have p0 := hE.res.cell 0); (have p1 := hE.res.cell 1); (have pf := hE.res.frozen); (have pi_ := hE.res.inw); (have p2 := hE.res2.cell 0); (have p3 := hE.res2.cell 1); (have pg := hE.res2.frozen); (have pj := hE.res2.inw))))
    go_wp2
    refine bodyPost_ret (v := .tuple #[.agg #[.int .i64 T.first, .slice A T.n c], .int .i64 x, .agg #[.int .i64 U.first, .slice A2 U.n c2], .int .i64 y, .int .i64 z]) (by simp [results, Try.results68, go_sem, p0, p1, pf, pi_, p2, p3, pg, pj, m1, m2, m3, m4, m5, m6, m7, m8, m9, m10, m11, m12]) rfl ?_
    obtain ⟨e1, e2, e3, e4⟩ := hE.fin hww (.int .i64 T.first) (.slice A T.n c) (.int .i64 U.first) (.slice A2 U.n c2)
    first | exact ⟨T, A, c, U, A2, c2, _, _, _, rfl, e2.ups, e3, e4⟩ | exact ⟨T, A, c, U, A2, c2, _, _, _, rfl, e2.ups.drew, e3.up (Up.drew (Up.refl _)), e4.up (Up.drew (Up.refl _))⟩
set_option maxRecDepth 100000 in
set_option maxHeartbeats 8000000 in
theorem s_DrawLastAnnuity (A0 : Option Addr) (L c0 : Nat) (hL : L ≤ 4096) (w : World) (hI : InCode w A0 L c0) :
    Calls Try.prog 131 #[.slice A0 L c0] w (fun e w' => ∃ T A c U A2 c2, ∃ x y r m : Int, e = .returned (.tuple #[.agg #[.int .i64 T.first, .slice A T.n c], .int .i64 x, .agg #[.int .i64 U.first, .slice A2 U.n c2], .int .i64 y, .int .i64 r, .int .i64 m]) ∧ Up w w' ∧ TabOwn w w' T (.agg #[.int .i64 T.first, .slice A T.n c]) ∧ TabOwn w w' U (.agg #[.int .i64 U.first, .slice A2 U.n c2])) := by
  have HI := Lib.hid hI
  have hu0 : Up w ((w.alloc (.cells #[.int .i64 0, .slice none 0 0] 31)).alloc (.cells #[.int .i64 0, .slice none 0 0] 31)) := (by repeat' (first | (with_reducible exact Up.refl _) | (with_reducible assumption) | (with_reducible refine Up.alloc ?_ _) | (with_reducible refine Up.drew ?_) | (with_reducible refine Up.grow ?_ _) | (with_reducible refine Up.setCell ?_ (by (try simp); (try omega)) _)))
  have hR : Blk ((w.alloc (.cells #[.int .i64 0, .slice none 0 0] 31)).alloc (.cells #[.int .i64 0, .slice none 0 0] 31)) w.heap.size 31 #[.int .i64 0, .slice none 0 0] := (Blk.new _ _ _).alloc _
  have hQ : Blk ((w.alloc (.cells #[.int .i64 0, .slice none 0 0] 31)).alloc (.cells #[.int .i64 0, .slice none 0 0] 31)) (w.heap.size + 1) 31 #[.int .i64 0, .slice none 0 0] := by
    have h := Blk.new (w.alloc (.cells #[.int .i64 0, .slice none 0 0] 31)) 31 #[.int .i64 0, .slice none 0 0]
    simpa only [World.size_alloc] using h
  have hz : ((w.alloc (.cells #[.int .i64 0, .slice none 0 0] 31)).alloc (.cells #[.int .i64 0, .slice none 0 0] 31)).heap.size = w.heap.size + 1 + 1 := by simp only [World.size_alloc]
  clear hI
  go_enter Try.func131, Try.ntmps131
  go_upto_region 1 with (fail)
  generalize (w.alloc (.cells #[.int .i64 0, .slice none 0 0] 31)).alloc (.cells #[.int .i64 0, .slice none 0 0] 31) = w1 at *
  obtain ⟨bQ, hbQ⟩ : ∃ q, w.heap.size + 1 = q := ⟨_, rfl⟩
  rw [hbQ] at hQ ⊢
  go_wp2_with (first
    | (go_at_call 238; refine (s_DrawJointAnnuity A0 L c0 hL w1 (HI.out.up hu0)).mono ?_; rintro e w3 ⟨T, A, c, U, A2, c2, x, y, r, m, rfl, h3, hO, hO2⟩; have hl1 : w.heap.size < w1.heap.size := (by omega); have hl2 : bQ < w1.heap.size := (by omega); have hup := hu0.trans h3; have hR := hR.up h3; have hQ := hQ.up h3; have p0 := hR.cell 0; have p1 := hR.cell 1; have pf := hR.frozen; have pi_ := hR.inw; have p2 := hQ.cell 0; have p3 := hQ.cell 1; have pg := hQ.frozen; have pj := hQ.inw; have m9 : ¬ w.heap.size = bQ := (by omega); have m10 : ¬ bQ = w.heap.size := (by omega)))
  refine bodyPost_ret (v := .tuple #[.agg #[.int .i64 T.first, .slice A T.n c], .int .i64 x, .agg #[.int .i64 U.first, .slice A2 U.n c2], .int .i64 y, .int .i64 r, .int .i64 m]) (by simp [results, Try.results131, go_sem, p0, p1, pf, pi_, p2, p3, pg, pj, m9, m10]) rfl ?_
  exact ⟨T, A, c, U, A2, c2, _, _, _, _, rfl, (((hup.setCell (p := ⟨w.heap.size, 0, none⟩) (Nat.le_refl _) _).setCell (p := ⟨w.heap.size, 1, none⟩) (Nat.le_refl _) _).setCell (p := ⟨bQ, 0, none⟩) (by show w.heap.size ≤ bQ; omega) _).setCell (p := ⟨bQ, 1, none⟩) (by show w.heap.size ≤ bQ; omega) _,
    ((((hO.set_old (a := ⟨w.heap.size, 0, none⟩) hl1 _).set_old (a := ⟨w.heap.size, 1, none⟩) hl1 _).set_old (a := ⟨bQ, 0, none⟩) hl2 _).set_old (a := ⟨bQ, 1, none⟩) hl2 _).base (by omega),
    ((((hO2.set_old (a := ⟨w.heap.size, 0, none⟩) hl1 _).set_old (a := ⟨w.heap.size, 1, none⟩) hl1 _).set_old (a := ⟨bQ, 0, none⟩) hl2 _).set_old (a := ⟨bQ, 1, none⟩) hl2 _).base (by omega)⟩
set_option maxRecDepth 100000 in
set_option maxHeartbeats 8000000 in
theorem s_DrawJointTable (A0 : Option Addr) (L c0 : Nat) (hL : L ≤ 4096) (w : World) (hI : InCode w A0 L c0) :
    Calls Try.prog 65 #[.slice A0 L c0] w (fun e w' => ∃ T A c U A2 c2, ∃ x y : Int, e = .returned (.tuple #[.agg #[.int .i64 T.first, .slice A T.n c], .int .i64 x, .agg #[.int .i64 U.first, .slice A2 U.n c2], .int .i64 y]) ∧ Up w w' ∧ TabOwn w w' T (.agg #[.int .i64 T.first, .slice A T.n c]) ∧ TabOwn w w' U (.agg #[.int .i64 U.first, .slice A2 U.n c2])) := by
  have HI := Lib.hid hI
  have hu0 : Up w ((w.alloc (.cells #[.int .i64 0, .slice none 0 0] 31)).alloc (.cells #[.int .i64 0, .slice none 0 0] 31)) := (by repeat' (first | (with_reducible exact Up.refl _) | (with_reducible assumption) | (with_reducible refine Up.alloc ?_ _) | (with_reducible refine Up.drew ?_) | (with_reducible refine Up.grow ?_ _) | (with_reducible refine Up.setCell ?_ (by (try simp); (try omega)) _)))
  have hR : Blk ((w.alloc (.cells #[.int .i64 0, .slice none 0 0] 31)).alloc (.cells #[.int .i64 0, .slice none 0 0] 31)) w.heap.size 31 #[.int .i64 0, .slice none 0 0] := (Blk.new _ _ _).alloc _
  have hQ : Blk ((w.alloc (.cells #[.int .i64 0, .slice none 0 0] 31)).alloc (.cells #[.int .i64 0, .slice none 0 0] 31)) (w.heap.size + 1) 31 #[.int .i64 0, .slice none 0 0] := by
    have h := Blk.new (w.alloc (.cells #[.int .i64 0, .slice none 0 0] 31)) 31 #[.int .i64 0, .slice none 0 0]
    simpa only [World.size_alloc] using h
  have hz : ((w.alloc (.cells #[.int .i64 0, .slice none 0 0] 31)).alloc (.cells #[.int .i64 0, .slice none 0 0] 31)).heap.size = w.heap.size + 1 + 1 := by simp only [World.size_alloc]
  clear hI
  go_enter Try.func65, Try.ntmps65
  go_upto_region 1 with (fail)
  generalize (w.alloc (.cells #[.int .i64 0, .slice none 0 0] 31)).alloc (.cells #[.int .i64 0, .slice none 0 0] 31) = w1 at *
  obtain ⟨bQ, hbQ⟩ : ∃ q, w.heap.size + 1 = q := ⟨_, rfl⟩
  rw [hbQ] at hQ ⊢
  go_wp2_with (first
    | (go_at_call 162; refine (s_FromW A0 L c0 hL w1 (HI.out.up hu0)).mono ?_; rintro e w2 ⟨b, rfl, hu2, hRb, hs⟩)
    | (go_at_call 188; (with_reducible refine (s_Draw8 _ (hs w hu0 HI.out)).mono ?_); rintro e w3 ⟨T, A, c, U, A2, c2, x, y, rfl, hg3, hs3, hO, hO2⟩; have hz2 := hu2.size; have hl1 : w.heap.size < w2.heap.size := (by omega); have hl2 : bQ < w2.heap.size := (by omega); have hup := hs3.ups; have hR := (hR.up hu2).gb (by omega) hg3; have hQ := (hQ.up hu2).gb (by omega) hg3; have p0 := hR.cell 0; have p1 := hR.cell 1; have pf := hR.frozen; have pi_ := hR.inw; have p2 := hQ.cell 0; have p3 := hQ.cell 1; have pg := hQ.frozen; have pj := hQ.inw; have m9 : ¬ w.heap.size = bQ := (by omega); have m10 : ¬ bQ = w.heap.size := (by omega)))
  refine bodyPost_ret (v := .tuple #[.agg #[.int .i64 T.first, .slice A T.n c], .int .i64 x, .agg #[.int .i64 U.first, .slice A2 U.n c2], .int .i64 y]) (by simp [results, Try.results65, go_sem, p0, p1, pf, pi_, p2, p3, pg, pj, m9, m10]) rfl ?_
  exact ⟨T, A, c, U, A2, c2, _, _, rfl, (((hup.setCell (p := ⟨w.heap.size, 0, none⟩) (Nat.le_refl _) _).setCell (p := ⟨w.heap.size, 1, none⟩) (Nat.le_refl _) _).setCell (p := ⟨bQ, 0, none⟩) (by show w.heap.size ≤ bQ; omega) _).setCell (p := ⟨bQ, 1, none⟩) (by show w.heap.size ≤ bQ; omega) _,
    ((((hO.set_old (a := ⟨w.heap.size, 0, none⟩) hl1 _).set_old (a := ⟨w.heap.size, 1, none⟩) hl1 _).set_old (a := ⟨bQ, 0, none⟩) hl2 _).set_old (a := ⟨bQ, 1, none⟩) hl2 _).base (by omega),
    ((((hO2.set_old (a := ⟨w.heap.size, 0, none⟩) hl1 _).set_old (a := ⟨w.heap.size, 1, none⟩) hl1 _).set_old (a := ⟨bQ, 0, none⟩) hl2 _).set_old (a := ⟨bQ, 1, none⟩) hl2 _).base (by omega)⟩
end Go.Proofs.Ytdeoampkbbbleaa
