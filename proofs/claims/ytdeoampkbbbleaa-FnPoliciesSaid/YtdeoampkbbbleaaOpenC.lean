/- The reading of the argument of a law over draws: a code of bytes. Condition: none. -/
import Derived.Test.YtdeoampkbbbleaaOpen
namespace Go.Proofs.Ytdeoampkbbbleaa
open Go.ChangeShapes Go.WideShapes Go.ChangeAt Go.RowKit Pu

/-- What is known of a slice of bytes that came in. -/
def InCode (w : World) (A : Option Addr) (n c : Nat) : Prop := n ≤ c ∧ c ≤ 9223372036854775807 ∧ ∀ i, i < n → ∃ b off z, A = some ⟨b, off, none⟩ ∧ b < w.heap.size ∧ w.cell? ⟨b, off + i, none⟩ = some (.int .u8 z) ∧ 0 ≤ z ∧ z ≤ 255
theorem InCode.up {w w' : World} {A n c} (h : InCode w A n c) (u : Up w w') : InCode w' A n c := by
  refine ⟨h.1, h.2.1, fun i hi => ?_⟩
  obtain ⟨b, off, z, e, hb, hc, hz⟩ := h.2.2 i hi
  exact ⟨b, off, z, e, Nat.lt_of_lt_of_le hb u.size, (u.cell (p := ⟨b, off + i, none⟩) hb).trans hc, hz⟩
section
variable {H : Type} {enc : TypeId × Value → H} {w : World} {base : Nat} {held : Bool}
theorem open_sliceU8 {A : Option Addr} {n c m : Nat} {y : DataW H × List MemPlace} (h : DataW.trod enc Try.prog w base (fun _ => true) held m 50 [.slice A n c] = some y) : InCode w A n c := by
  rcases open_ints Try.underlying50 Try.underlying5 (by kernel_rfl) h with ⟨hcs, _⟩ | ⟨a, l, c', zs, hcs, _, hl, hm, hz, _, hcell, hwf⟩
  · simp at hcs
    obtain ⟨rfl, rfl, rfl⟩ := hcs
    exact ⟨Nat.le_refl _, by omega, fun i hi => by omega⟩
  · simp at hcs
    obtain ⟨rfl, rfl, rfl⟩ := hcs
    refine ⟨hl, by unfold maxLen at hm; omega, fun i hi => ?_⟩
    obtain ⟨b, off, spot⟩ := a
    have hc := hcell i (by simp at hz; omega)
    have h0 := hcell 0 (by simp at hz; omega)
    have hspot : spot = none := by simpa [Addr.add] using World.cell?_spot h0
    subst hspot
    have e : (⟨b, off, none⟩ : Addr).add i = ⟨b, off + i, none⟩ := by unfold Addr.add; split <;> simp_all
    rw [e] at hc
    have hr := range_u8 hwf i
    rw [← List.getD_eq_getElem?_getD] at hr
    exact ⟨b, off, _, rfl, World.block_lt_of_cell? w _ hc, hc, hr.1, hr.2⟩
set_option maxRecDepth 100000 in
theorem open_Code {r : Reach} {b0 : Nat} {v : Value} {d : DataW H} {p : List MemPlace} (hv : Value.okWide Try.prog w r b0 50 v) (h : DataW.Trod enc Try.prog w base (fun _ => true) held 50 v d p) :
    ∃ A n c, v = .slice A n c ∧ InCode w A n c := by
  obtain ⟨A, n, c, rfl⟩ := okWide_slice Try.underlying50 hv
  obtain ⟨m, hf⟩ := h
  exact ⟨A, n, c, rfl, open_sliceU8 hf⟩
end
end Go.Proofs.Ytdeoampkbbbleaa
