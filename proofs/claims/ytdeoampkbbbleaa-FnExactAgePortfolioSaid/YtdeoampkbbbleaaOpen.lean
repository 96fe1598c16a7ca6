/- The reading of the laws' arguments: life tables, and what the frame of a row wants. Condition: none. -/
import Derived.Test.YtdeoampkbbbleaaBase
import Derived.ProofKit
import Derived.OpenShut
import Derived.ShutString
import Derived.ChangeOld
import Derived.Below
import Derived.Lib.SmallJoins
namespace Go.Proofs.Ytdeoampkbbbleaa
open Go.ChangeShapes Go.WideShapes Go.ChangeAt Go.RowKit Pu

theorem own_ : ownKnob Try.prog.godebug = none := by kernel_rfl
theorem laidOut_ : laidOutB Try.prog = true := by kernel_rfl

/-- What is known of a slice of numbers that came in. -/
def InInts (w : World) (A : Option Addr) (n c : Nat) (f : Nat → Int) : Prop := n ≤ c ∧ c ≤ 9223372036854775807 ∧ Ints w A n f

section
variable {H : Type} {enc : TypeId × Value → H} {w : World} {base : Nat} {held : Bool}
theorem open_slice64 {A : Option Addr} {n c m : Nat} {y : DataW H × List MemPlace} (h : DataW.trod enc Try.prog w base (fun _ => true) held m 22 [.slice A n c] = some y) : ∃ f, InInts w A n c f := by
  rcases open_ints Try.underlying22 Try.underlying2 (by kernel_rfl) h with ⟨hcs, _⟩ | ⟨a, l, c', zs, hcs, _, hl, hm, hz, _, hcell, _⟩
  · simp at hcs
    obtain ⟨rfl, rfl, rfl⟩ := hcs
    exact ⟨fun _ => 0, Nat.le_refl _, by omega, fun i hi => by omega⟩
  · simp at hcs
    obtain ⟨rfl, rfl, rfl⟩ := hcs
    refine ⟨fun i => zs.getD i 0, hl, by unfold maxLen at hm; omega, fun i hi => ?_⟩
    obtain ⟨b, off, spot⟩ := a
    have hc := hcell i (by simp at hz; omega)
    have h0 := hcell 0 (by simp at hz; omega)
    have hspot : spot = none := by simpa [Addr.add] using World.cell?_spot h0
    subst hspot
    have e : (⟨b, off, none⟩ : Addr).add i = ⟨b, off + i, none⟩ := by unfold Addr.add; split <;> simp_all
    rw [e] at hc
    exact ⟨b, off, rfl, World.block_lt_of_cell? w _ hc, hc⟩

theorem c_int : Try.prog.cellsOf 2 = 1 := by kernel_rfl
theorem c_slice : Try.prog.cellsOf 22 = 1 := by kernel_rfl
theorem c_table : Try.prog.cellsOf 24 = 2 := by kernel_rfl

theorem open_table {cs : List Value} {m : Nat} {y : DataW H × List MemPlace} (h : DataW.trod enc Try.prog w base (fun _ => true) held m 24 cs = some y) :
    ∃ first A n c f, cs = [.int .i64 first, .slice A n c] ∧ InInts w A n c f := by
  obtain ⟨y0, y1, k, _, hl, h0, h1⟩ := trod_struct2 Try.underlying24 h
  rw [c_table] at hl
  dsimp only at h0 h1
  rw [c_int] at h0
  rw [c_slice] at h1
  match cs, hl with
  | [c0, c1], _ =>
    simp only [List.drop_zero, List.take_succ_cons, List.take_zero, List.drop_succ_cons] at h0 h1
    obtain ⟨first, e0, _, _⟩ := DataW.trod_int Try.underlying2 h0
    obtain ⟨A, n, c, e1⟩ := Joins.slice_form Try.underlying22 h1
    simp at e0 e1
    subst e0; subst e1
    obtain ⟨f, hf⟩ := open_slice64 h1
    exact ⟨first, A, n, c, f, rfl, hf⟩

set_option maxRecDepth 100000 in
theorem open_LifeTable {r : Reach} {b0 : Nat} {v : Value} {d : DataW H} {p : List MemPlace} (hv : Value.okWide Try.prog w r b0 24 v) (h : DataW.Trod enc Try.prog w base (fun _ => true) held 24 v d p) :
    ∃ first A n c f, v = .agg #[.int .i64 first, .slice A n c] ∧ InInts w A n c f := by
  have hs := okWide_struct Try.underlying24 hv
  rw [c_table] at hs
  obtain ⟨cs, rfl, _⟩ := hs
  obtain ⟨m, hf⟩ := h
  obtain ⟨first, A, n, c, f, e, hi⟩ := open_table hf
  obtain ⟨l⟩ := cs
  simp only [Value.cells] at e
  subst e
  exact ⟨first, A, n, c, f, rfl, hi⟩
end
end Go.Proofs.Ytdeoampkbbbleaa
