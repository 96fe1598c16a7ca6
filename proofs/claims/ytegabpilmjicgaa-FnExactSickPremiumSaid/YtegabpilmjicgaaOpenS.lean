/- The reading of the laws' sickness tables. Condition: none. -/
import Derived.Test.YtegabpilmjicgaaOpen
namespace Go.Proofs.Ytegabpilmjicgaa
open Go.ChangeShapes Go.WideShapes Go.ChangeAt Go.RowKit Pu

section
variable {H : Type} {enc : TypeId × Value → H} {w : World} {base : Nat} {held : Bool}
theorem c_sick : Try.prog.cellsOf 50 = 2 := by kernel_rfl
theorem open_sick {cs : List Value} {m : Nat} {y : DataW H × List MemPlace} (h : DataW.trod enc Try.prog w base (fun _ => true) held m 50 cs = some y) :
    ∃ first A n c f, cs = [.int .i64 first, .slice A n c] ∧ InInts w A n c f := by
  obtain ⟨y0, y1, k, _, hl, h0, h1⟩ := trod_struct2 Try.underlying50 h
  rw [c_sick] at hl
  dsimp only at h0 h1
  rw [c_int] at h0
  rw [c_slice] at h1
  match cs, hl with
  | [c0, c1], _ =>
    simp only [List.drop_zero, List.take_succ_cons, List.take_zero, List.drop_succ_cons] at h0 h1
    obtain ⟨first, e0, _, _⟩ := DataW.trod_int Try.underlying2 h0
    obtain ⟨A, n, c, e1⟩ := Joins.slice_form Try.underlying22 h1
    simp at e0 e1
    subst e0; subst e1
    obtain ⟨f, hf⟩ := open_slice64 h1
    exact ⟨first, A, n, c, f, rfl, hf⟩

set_option maxRecDepth 100000 in
theorem open_SickTable {r : Reach} {b0 : Nat} {v : Value} {d : DataW H} {p : List MemPlace} (hv : Value.okWide Try.prog w r b0 50 v) (h : DataW.Trod enc Try.prog w base (fun _ => true) held 50 v d p) :
    ∃ first A n c f, v = .agg #[.int .i64 first, .slice A n c] ∧ InInts w A n c f := by
  have hs := okWide_struct Try.underlying50 hv
  rw [c_sick] at hs
  obtain ⟨cs, rfl, _⟩ := hs
  obtain ⟨m, hf⟩ := h
  obtain ⟨first, A, n, c, f, e, hi⟩ := open_sick hf
  obtain ⟨l⟩ := cs
  simp only [Value.cells] at e
  subst e
  exact ⟨first, A, n, c, f, rfl, hi⟩
end
end Go.Proofs.Ytegabpilmjicgaa
