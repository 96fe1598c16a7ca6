/- The reading of the laws' arguments: bases and policies. Condition: none. -/
import Derived.Test.YtdeoampkbbbleaaOpen
namespace Go.Proofs.Ytdeoampkbbbleaa
open Go.ChangeShapes Go.WideShapes Go.ChangeAt Go.RowKit Pu

theorem c_Basis : Try.prog.cellsOf 26 = 3 := by kernel_rfl
theorem c_Policy : Try.prog.cellsOf 117 = 5 := by kernel_rfl
section
variable {H : Type} {enc : TypeId × Value → H} {w : World} {base : Nat} {held : Bool}
theorem open_basis {cs : List Value} {m : Nat} {y : DataW H × List MemPlace} (h : DataW.trod enc Try.prog w base (fun _ => true) held m 26 cs = some y) :
    ∃ first A n c f r, cs = [.int .i64 first, .slice A n c, .int .i64 r] ∧ InInts w A n c f := by
  obtain ⟨y0, y1, k, _, hl, h0, h1⟩ := trod_struct2 Try.underlying26 h
  rw [c_Basis] at hl
  dsimp only at h0 h1
  rw [c_table] at h0
  rw [c_int] at h1
  match cs, hl with
  | [c0, c1, c2], _ =>
    simp only [List.drop_zero, List.take_succ_cons, List.take_zero, List.drop_succ_cons] at h0 h1
    obtain ⟨first, A, n, c, f, e0, hf⟩ := open_table h0
    obtain ⟨r, e1, _, _⟩ := DataW.trod_int Try.underlying2 h1
    simp at e0 e1
    obtain ⟨rfl, rfl⟩ := e0
    subst e1
    exact ⟨first, A, n, c, f, r, rfl, hf⟩
theorem trod_struct5 {P : Program} {spare : Nat → Bool} {t : TypeId} {f0 f1 f2 f3 f4 : Field} {fuel : Nat} {cs : List Value} {x : DataW H × List MemPlace} (ht : P.underlying t = some (.struct #[f0, f1, f2, f3, f4])) (h : DataW.trod enc P w base spare held fuel t cs = some x) :
    ∃ y0 y1 y2 y3 y4 n, cs.length = P.cellsOf t ∧ DataW.trod enc P w base spare held n f0.type ((cs.drop f0.offset).take (P.cellsOf f0.type)) = some y0 ∧ DataW.trod enc P w base spare held n f1.type ((cs.drop f1.offset).take (P.cellsOf f1.type)) = some y1 ∧
      DataW.trod enc P w base spare held n f2.type ((cs.drop f2.offset).take (P.cellsOf f2.type)) = some y2 ∧ DataW.trod enc P w base spare held n f3.type ((cs.drop f3.offset).take (P.cellsOf f3.type)) = some y3 ∧ DataW.trod enc P w base spare held n f4.type ((cs.drop f4.offset).take (P.cellsOf f4.type)) = some y4 := by
  obtain ⟨xs, n, _, rfl, hl, hlen, hf⟩ := DataW.trod_struct ht h
  match xs, hlen with
  | [y0, y1, y2, y3, y4], _ => exact ⟨y0, y1, y2, y3, y4, n, hl, by simpa using hf 0 f0 rfl, by simpa using hf 1 f1 rfl, by simpa using hf 2 f2 rfl, by simpa using hf 3 f3 rfl, by simpa using hf 4 f4 rfl⟩
theorem open_policy {cs : List Value} {m : Nat} {y : DataW H × List MemPlace} (h : DataW.trod enc Try.prog w base (fun _ => true) held m 117 cs = some y) :
    ∃ a0 a1 a2 a3 a4, cs = [.int .i64 a0, .int .i64 a1, .int .i64 a2, .int .i64 a3, .int .i64 a4] := by
  obtain ⟨y0, y1, y2, y3, y4, n, hl, h0, h1, h2, h3, h4⟩ := trod_struct5 Try.underlying117 h
  rw [c_Policy] at hl
  dsimp only at h0 h1 h2 h3 h4
  rw [c_int] at h0 h1 h2 h3 h4
  match cs, hl with
  | [c0, c1, c2, c3, c4], _ =>
    simp only [List.drop_zero, List.take_succ_cons, List.take_zero, List.drop_succ_cons] at h0 h1 h2 h3 h4
    obtain ⟨a0, e0, _, _⟩ := DataW.trod_int Try.underlying2 h0
    obtain ⟨a1, e1, _, _⟩ := DataW.trod_int Try.underlying2 h1
    obtain ⟨a2, e2, _, _⟩ := DataW.trod_int Try.underlying2 h2
    obtain ⟨a3, e3, _, _⟩ := DataW.trod_int Try.underlying2 h3
    obtain ⟨a4, e4, _, _⟩ := DataW.trod_int Try.underlying2 h4
    simp at e0 e1 e2 e3 e4
    subst e0 e1 e2 e3 e4
    exact ⟨a0, a1, a2, a3, a4, rfl⟩
set_option maxRecDepth 100000 in
theorem open_Basis {r : Reach} {b0 : Nat} {v : Value} {d : DataW H} {p : List MemPlace} (hv : Value.okWide Try.prog w r b0 26 v) (h : DataW.Trod enc Try.prog w base (fun _ => true) held 26 v d p) :
    ∃ first A n c f q, v = .agg #[.int .i64 first, .slice A n c, .int .i64 q] ∧ InInts w A n c f := by
  have hs := okWide_struct Try.underlying26 hv
  rw [c_Basis] at hs
  obtain ⟨cs, rfl, _⟩ := hs
  obtain ⟨m, hf⟩ := h
  obtain ⟨first, A, n, c, f, q, e, hi⟩ := open_basis hf
  obtain ⟨l⟩ := cs
  simp only [Value.cells] at e
  subst e
  exact ⟨first, A, n, c, f, q, rfl, hi⟩
set_option maxRecDepth 100000 in
theorem open_Policy {r : Reach} {b0 : Nat} {v : Value} {d : DataW H} {p : List MemPlace} (hv : Value.okWide Try.prog w r b0 117 v) (h : DataW.Trod enc Try.prog w base (fun _ => true) held 117 v d p) :
    ∃ a0 a1 a2 a3 a4, v = .agg #[.int .i64 a0, .int .i64 a1, .int .i64 a2, .int .i64 a3, .int .i64 a4] := by
  have hs := okWide_struct Try.underlying117 hv
  rw [c_Policy] at hs
  obtain ⟨cs, rfl, _⟩ := hs
  obtain ⟨m, hf⟩ := h
  obtain ⟨a0, a1, a2, a3, a4, e⟩ := open_policy hf
  obtain ⟨l⟩ := cs
  simp only [Value.cells] at e
  subst e
  exact ⟨a0, a1, a2, a3, a4, rfl⟩
end
end Go.Proofs.Ytdeoampkbbbleaa
