/- The state of the draws of a table: the source, the table with its box, the result; l05Draw. Condition: a source made since W. -/
import Derived.Test.YtdeoampkbbbleaaDrawD
import Derived.Test.YtdeoampkbbbleaaDrawR
import Derived.Test.YtdeoampkbbbleaaDrawF
namespace Go.Proofs.Ytdeoampkbbbleaa
open Go.RowKit Pu
set_option linter.unusedVariables false
set_option linter.unusedSimpArgs false

theorem TabOwn.base {w0 w w1 : World} {T v} (h : TabOwn w w1 T v) (hs : w0.heap.size ≤ w.heap.size) : TabOwn w0 w1 T v := by
  obtain ⟨h0, A, c, h1, h2⟩ := h
  exact ⟨h0, A, c, h1, h2.base hs⟩
theorem TabOwn.set_old {w w1 : World} {T v} (h : TabOwn w w1 T v) {a : Addr} (ha : a.block < w.heap.size) (u : Value) : TabOwn w (w1.setCell a u) T v := by
  obtain ⟨h0, A, c, h1, h2⟩ := h
  exact ⟨h0, A, c, h1, h2.set_old ha u⟩
/-- The source at b, a table of the draw's own in the box bT, the result at bR. -/
structure DT (W w0 w1 wr : World) (b bR bT : Nat) (T : Tab) (A : Option Addr) (c : Nat) : Prop where
  src : Src W wr b
  gb : Gb b w0 wr
  l0 : w0.heap.size ≤ bR
  own : TabOwn w1 wr T (.agg #[.int .i64 T.first, .slice A T.n c])
  box : Blk wr bT 31 #[.int .i64 T.first, .slice A T.n c]
  res : Blk wr bR 31 #[.int .i64 0, .slice none 0 0]
  lb : b < w1.heap.size
  lR : W.heap.size ≤ bR
  lR1 : bR < w1.heap.size
  l1 : w1.heap.size ≤ bT
  nT : bT ≠ b
  nR : bR ≠ b
theorem DT.on {W w0 w1 wr w2 : World} {b bR bT : Nat} {T : Tab} {A c} (h : DT W w0 w1 wr b bR bT T A c) (k : Gb b wr w2) (s : Src W w2 b) : DT W w0 w1 w2 b bR bT T A c :=
  { h with src := s, gb := h.gb.trans k, own := h.own.gb h.lb k, box := h.box.gb h.nT k, res := h.res.gb h.nR k }
theorem DT.up {W w0 w1 wr w2 : World} {b bR bT : Nat} {T : Tab} {A c} (h : DT W w0 w1 wr b bR bT T A c) (u : Up wr w2) : DT W w0 w1 w2 b bR bT T A c :=
  h.on (Gb.of u) (h.src.up u)
theorem DT.neq {W w0 w1 wr : World} {b bR bT : Nat} {T : Tab} {A c} (h : DT W w0 w1 wr b bR bT T A c) : ¬ bR = bT ∧ ¬ bT = bR := by
  have := h.lR1; have := h.l1; omega
theorem DT.age {W w0 w1 wr : World} {b bR bT : Nat} {T : Tab} {A c} (h : DT W w0 w1 wr b bR bT T A c) (hf : -1 ≤ T.first ∧ T.first ≤ 101) (hn : 2 ≤ T.n ∧ T.n ≤ 27) :
    Calls Try.prog 184 #[.pointer (some ⟨b, 0, none⟩), .agg #[.int .i64 T.first, .slice A T.n c]] wr (RetDraw W wr b (fun _ => True)) :=
  s_DrawAge T hf hn _ _ h.src h.own.tab (fun w' g => (h.own.gb h.lb g).tab)
theorem gb_set2 {w0 wr : World} {b bR : Nat} (g : Gb b w0 wr) (hl : w0.heap.size ≤ bR) (u0 u1 : Value) : Gb b w0 ((wr.setCell ⟨bR, 0, none⟩ u0).setCell ⟨bR, 1, none⟩ u1) :=
  (g.set (p := ⟨bR, 0, none⟩) (Or.inr hl) _).set (p := ⟨bR, 1, none⟩) (Or.inr hl) _
/-- The table is copied into the result. -/
theorem DT.fin {W w0 w1 wr : World} {b bR bT : Nat} {T : Tab} {A c} (h : DT W w0 w1 wr b bR bT T A c) (hw : w0.heap.size ≤ w1.heap.size) (u0 u1 : Value) :
    Gb b w0 ((wr.setCell ⟨bR, 0, none⟩ u0).setCell ⟨bR, 1, none⟩ u1) ∧ Src W ((wr.setCell ⟨bR, 0, none⟩ u0).setCell ⟨bR, 1, none⟩ u1) b ∧ TabOwn w0 ((wr.setCell ⟨bR, 0, none⟩ u0).setCell ⟨bR, 1, none⟩ u1) T (.agg #[.int .i64 T.first, .slice A T.n c]) := by
  have l1 := h.lR; have l2 := h.lR1
  exact ⟨gb_set2 h.gb h.l0 _ _, (h.src.set (p := ⟨bR, 0, none⟩) l1 h.nR _).set (p := ⟨bR, 1, none⟩) l1 h.nR _, ((h.own.set_old (a := ⟨bR, 0, none⟩) l2 _).set_old (a := ⟨bR, 1, none⟩) l2 _).base hw⟩
/-- A table and a rate are drawn. -/
def RetD5 (W w : World) (b : Nat) (e : Ending) (w' : World) : Prop := ∃ T A c r, e = .returned (.tuple #[.agg #[.int .i64 T.first, .slice A T.n c], .int .i64 r]) ∧ Gb b w w' ∧ Src W w' b ∧ TabOwn w w' T (.agg #[.int .i64 T.first, .slice A T.n c]) ∧ (-1 ≤ T.first ∧ T.first ≤ 101) ∧ (2 ≤ T.n ∧ T.n ≤ 27) ∧ -1 ≤ r ∧ r ≤ 201
theorem RetD3.form {W w : World} {b : Nat} {e : Ending} {w' : World} (h : RetD3 W w b e w') : ∃ T A c, e = .returned (.agg #[.int .i64 T.first, .slice A T.n c]) ∧ Gb b w w' ∧ Src W w' b ∧ TabOwn w w' T (.agg #[.int .i64 T.first, .slice A T.n c]) ∧ (-1 ≤ T.first ∧ T.first ≤ 101) ∧ (2 ≤ T.n ∧ T.n ≤ 27) := by
  obtain ⟨v, T, rfl, h1, h2, h3, h4, h5⟩ := h
  obtain ⟨h0, A, c, rfl, h6⟩ := id h3
  exact ⟨T, A, c, rfl, h1, h2, h3, h4, h5⟩
set_option maxRecDepth 100000 in
set_option maxHeartbeats 2000000 in
theorem s_Draw5 {W : World} {b : Nat} (w : World) (h : Src W w b) : Calls Try.prog 195 #[.pointer (some ⟨b, 0, none⟩)] w (RetD5 W w b) := by
  have hbw := h.inw
  have hWw := h.ups.size
  have hR := Blk.new w 31 #[.int .i64 0, .slice none 0 0]
  have hs := h.up (Up.alloc (Up.refl w) (.cells #[.int .i64 0, .slice none 0 0] 31))
  have hg := (Gb.refl b w).alloc (.cells #[.int .i64 0, .slice none 0 0] 31)
  have hz := World.size_alloc w (.cells #[.int .i64 0, .slice none 0 0] 31)
  have hne : w.heap.size ≠ b := by omega
  go_enter Try.func195, Try.ntmps195
  go_upto_region 1 with (fail)
  generalize w.alloc (.cells #[.int .i64 0, .slice none 0 0] 31) = w1 at *
  go_wp2_with (first
    | (go_at_call 182; (with_reducible refine (s_Draw3 _ hs).mono ?_); rintro e w2 h2; obtain ⟨T, A, c, rfl, hg2, hs2, hO, hf, hn⟩ := h2.form; have hR := hR.gb hne hg2; have hg := hg.trans hg2)
    | (go_at_call 164; (with_reducible refine (s_DrawRate _ hs2).mono ?_); rintro e w3 ⟨r, rfl, hr, hg3, hs3⟩; have hR := hR.gb hne hg3; have hg := hg.trans hg3; have hO := hO.gb (by omega) hg3; have p0 := hR.cell 0; have p1 := hR.cell 1; have pf := hR.frozen; have pi_ := hR.inw))
  have hl1 : w.heap.size < w1.heap.size := by omega
  refine bodyPost_ret (v := .tuple #[.agg #[.int .i64 T.first, .slice A T.n c], .int .i64 r]) (by simp [results, Try.results195, go_sem, p0, p1, pf, pi_]) rfl ?_
  refine ⟨T, A, c, r, rfl, gb_set2 hg (Nat.le_refl _) _ _, (hs3.set (p := ⟨w.heap.size, 0, none⟩) hWw hne _).set (p := ⟨w.heap.size, 1, none⟩) hWw hne _, ((hO.set_old (a := ⟨w.heap.size, 0, none⟩) hl1 _).set_old (a := ⟨w.heap.size, 1, none⟩) hl1 _).base (by omega), hf, hn, hr⟩
end Go.Proofs.Ytdeoampkbbbleaa
