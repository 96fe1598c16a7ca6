/- Words on draws: a source in memory that has been made since W; worlds that have grown out of one another but for the source's block. No condition. -/
import Derived.Test.YtdeoampkbbbleaaLawT
import Derived.Test.YtdeoampkbbbleaaOpenC
import Derived.Test.YtdeoampkbbbleaaICols
import Derived.Test.YtdeoampkbbbleaaPush
namespace Go.Proofs.Ytdeoampkbbbleaa
open Go.RowKit Pu

/-- w' has grown out of w, but for block b. -/
def Gb (b : Nat) (w w' : World) : Prop := w.grownBy w' (some b)
theorem Gb.refl (b : Nat) (w : World) : Gb b w w := World.grownBy.refl w _
theorem Gb.of {b : Nat} {w w' : World} (u : Up w w') : Gb b w w' := World.grownBy.but (grownBy_up u) _
theorem Gb.trans {b : Nat} {a c d : World} (h : Gb b a c) (k : Gb b c d) : Gb b a d := World.grownBy.trans h k
theorem Gb.alloc {b : Nat} {w w' : World} (h : Gb b w w') (o : Obj) : Gb b w (w'.alloc o) := h.trans (World.grownBy_alloc _ _ _)
theorem Gb.drew {b : Nat} {w w' : World} (h : Gb b w w') : Gb b w w'.drew := h.trans (Gb.of (Up.drew (Up.refl _)))
theorem Gb.up {b : Nat} {w w' w2 : World} (h : Gb b w w') (u : Up w' w2) : Gb b w w2 := h.trans (Gb.of u)
theorem Gb.size {b : Nat} {w w' : World} (h : Gb b w w') : w.heap.size ≤ w'.heap.size := World.grownBy.size h
/-- Behind a change of a block that is new. -/
theorem Gb.far {b : Nat} {w w' w2 : World} (h : Gb b w w') {o : Option Nat} (g : w'.grownBy w2 o) (ho : ∀ k, o = some k → w.heap.size ≤ k) : Gb b w w2 := by
  refine ⟨g.os.trans h.os, g.tape.trans h.tape, g.output.trans h.output, Nat.le_trans h.size g.size, fun k hk hne => ?_⟩
  rw [g.block k (Nat.lt_of_lt_of_le hk h.size) (fun e => by have := ho k e.symm; omega)]
  exact h.block k hk hne
theorem Gb.set {b : Nat} {w w' : World} (h : Gb b w w') {p : Addr} (hp : p.block = b ∨ w.heap.size ≤ p.block) (u : Value) : Gb b w (w'.setCell p u) := by
  refine ⟨h.os, h.tape, h.output, ?_, fun k hk hne => ?_⟩
  · have := h.size; simpa [World.setCell] using this
  · rw [heap_setCell_other w' p k u (by rcases hp with rfl | hp; exact fun e => hne (by rw [e]); omega)]
    exact h.block k hk hne
theorem Up.gb {W w w' : World} {b : Nat} (h : Up W w) (hb : W.heap.size ≤ b) (g : Gb b w w') : Up W w' := h.far g (fun k hk => by cases hk; exact hb)
theorem Own.gb {w0 w w' : World} {v xs} {b : Nat} (h : Own w0 w v xs) (hb : b < w0.heap.size) (g : Gb b w w') : Own w0 w' v xs :=
  h.far g (fun k hk e => by cases hk; have := (World.ownsRow.lt h _ e).1; omega)
theorem TabOwn.gb {w0 w w' : World} {T v} {b : Nat} (h : TabOwn w0 w T v) (hb : b < w0.heap.size) (g : Gb b w w') : TabOwn w0 w' T v := by
  obtain ⟨h0, A, c, h1, h2⟩ := h
  exact ⟨h0, A, c, h1, h2.gb hb g⟩
theorem Blk.gb {w w' : World} {g t cs} {b : Nat} (h : Blk w g t cs) (hne : g ≠ b) (k : Gb b w w') : Blk w' g t cs := blk_far h k (fun k hk => by cases hk; exact fun e => hne e.symm)

/-- The source of draws at block b, made since W: the code's bytes, the place, the seed. -/
def Src (W w : World) (b : Nat) : Prop := W.heap.size ≤ b ∧ Up W w ∧ ∃ A L c at_ seed, InCode W A L c ∧ L ≤ 4096 ∧ Blk w b 187 #[.slice A L c, .int .i64 at_, .int .i64 seed] ∧ (0 ≤ at_ ∧ at_ ≤ L) ∧ (0 ≤ seed ∧ seed < 2147483647)
theorem Src.up {W w w' : World} {b : Nat} (h : Src W w b) (u : Up w w') : Src W w' b := by
  obtain ⟨h1, h2, A, L, c, p, s, h3, h4, h5, h6⟩ := h
  exact ⟨h1, h2.trans u, A, L, c, p, s, h3, h4, h5.up u, h6⟩
theorem Src.inw {W w : World} {b : Nat} (h : Src W w b) : b < w.heap.size := by obtain ⟨_, _, _, _, _, _, _, _, _, h1, _⟩ := h; exact h1.inw
theorem Src.ups {W w : World} {b : Nat} (h : Src W w b) : Up W w := h.2.1
/-- Behind a change of another block that is new. -/
theorem Src.far {W w w' : World} {b : Nat} (h : Src W w b) {o : Option Nat} (g : w.grownBy w' o) (ho : ∀ k, o = some k → W.heap.size ≤ k ∧ k ≠ b) : Src W w' b := by
  obtain ⟨h1, h2, A, L, c, p, s, h3, h4, h5, h6⟩ := h
  exact ⟨h1, h2.far g (fun k hk => (ho k hk).1), A, L, c, p, s, h3, h4, blk_far h5 g (fun k hk => (ho k hk).2), h6⟩
/-- A source that was made alone is as good as none: what was there is as it was. -/
theorem Src.all {W w w' : World} {b : Nat} (h : Src W w b) (g : Gb b w w') : Up W w' := h.2.1.gb h.1 g

theorem Src.set {W w : World} {b : Nat} (h : Src W w b) {p : Addr} (hp : W.heap.size ≤ p.block) (hne : p.block ≠ b) (u : Value) : Src W (w.setCell p u) b := by
  obtain ⟨h1, h2, A, L, c, q, s, h3, h4, h5, h6⟩ := h
  exact ⟨h1, h2.setCell hp u, A, L, c, q, s, h3, h4, h5.other hne u, h6⟩
/-- A source with its place and seed, and what has changed since w0: its block alone. -/
structure SAt (W w0 w : World) (b : Nat) (A : Option Addr) (L c : Nat) (p s : Int) : Prop where
  lo : W.heap.size ≤ b
  ups : Up W w
  code : InCode W A L c
  blk : Blk w b 187 #[.slice A L c, .int .i64 p, .int .i64 s]
  gb : Gb b w0 w
theorem SAt.up {W w0 w w' : World} {b A L c p s} (h : SAt W w0 w b A L c p s) (u : Up w w') : SAt W w0 w' b A L c p s := ⟨h.lo, h.ups.trans u, h.code, h.blk.up u, h.gb.up u⟩
theorem SAt.set1 {W w0 w : World} {b A L c p s} (h : SAt W w0 w b A L c p s) (q : Int) : SAt W w0 (w.setCell ⟨b, 1, none⟩ (.int .i64 q)) b A L c q s :=
  ⟨h.lo, Up.setCell h.ups (p := ⟨b, 1, none⟩) h.lo _, h.code, by simpa using h.blk.same 1 (.int .i64 q), h.gb.trans (Gb.set (Gb.refl _ _) (Or.inl rfl) _)⟩
theorem SAt.set2 {W w0 w : World} {b A L c p s} (h : SAt W w0 w b A L c p s) (q : Int) : SAt W w0 (w.setCell ⟨b, 2, none⟩ (.int .i64 q)) b A L c p q :=
  ⟨h.lo, Up.setCell h.ups (p := ⟨b, 2, none⟩) h.lo _, h.code, by simpa using h.blk.same 2 (.int .i64 q), h.gb.trans (Gb.set (Gb.refl _ _) (Or.inl rfl) _)⟩
theorem SAt.byte {W w0 w : World} {b A L c p s} (h : SAt W w0 w b A L c p s) {i : Nat} (hi : i < L) : ∃ a off z, A = some ⟨a, off, none⟩ ∧ 0 ≤ z ∧ z ≤ 255 ∧ ∀ w', Up W w' → w'.cell? ⟨a, off + i, none⟩ = some (.int .u8 z) := by
  obtain ⟨a, off, z, e, ha, hc, h1, h2⟩ := h.code.2.2 i hi
  exact ⟨a, off, z, e, h1, h2, fun w' u => (u.cell (p := ⟨a, off + i, none⟩) ha).trans hc⟩
theorem SAt.src {W w0 w : World} {b A L c p s} (h : SAt W w0 w b A L c p s) (h4 : L ≤ 4096) (h5 : 0 ≤ p ∧ p ≤ L) (h6 : 0 ≤ s ∧ s < 2147483647) : Src W w b := ⟨h.lo, h.ups, A, L, c, p, s, h.code, h4, h.blk, h5, h6⟩

/-- A number is drawn: p holds of it; the source alone has changed. -/
def RetDraw (W w : World) (b : Nat) (p : Int → Prop) (e : Ending) (w' : World) : Prop := ∃ x, e = .returned (.int .i64 x) ∧ p x ∧ Gb b w w' ∧ Src W w' b
end Go.Proofs.Ytdeoampkbbbleaa
