/- The reading of the laws' arguments: holdings, numbers. Condition: none. -/
import Derived.Test.YtdeoampkbbbleaaOpenP
import Derived.Test.YtdeoampkbbbleaaHold
import Derived.Deep.Slices
namespace Go.Proofs.Ytdeoampkbbbleaa
open Go.ChangeShapes Go.WideShapes Go.ChangeAt Go.RowKit Pu

theorem c_Holding : Try.prog.cellsOf 119 = 7 := by kernel_rfl
/-- What is known of a slice of holdings that came in. -/
def InHold (w : World) (A : Option Addr) (n c : Nat) (g : Nat → Nat → Int) : Prop := n ≤ c ∧ c ≤ 9223372036854775807 ∧ HInts w A n g
theorem add_none (b off k : Nat) : (⟨b, off, none⟩ : Addr).add k = ⟨b, off + k, none⟩ := by unfold Addr.add; split <;> simp_all
section
variable {H : Type} {enc : TypeId × Value → H} {w : World} {base : Nat} {held : Bool}
theorem trod_struct3h {P : Program} {spare : Nat → Bool} {t : TypeId} {f0 f1 f2 : Field} {fuel : Nat} {cs : List Value} {x : DataW H × List MemPlace} (ht : P.underlying t = some (.struct #[f0, f1, f2])) (h : DataW.trod enc P w base spare held fuel t cs = some x) :
    ∃ y0 y1 y2 n, cs.length = P.cellsOf t ∧ DataW.trod enc P w base spare held n f0.type ((cs.drop f0.offset).take (P.cellsOf f0.type)) = some y0 ∧ DataW.trod enc P w base spare held n f1.type ((cs.drop f1.offset).take (P.cellsOf f1.type)) = some y1 ∧
      DataW.trod enc P w base spare held n f2.type ((cs.drop f2.offset).take (P.cellsOf f2.type)) = some y2 := by
  obtain ⟨xs, n, _, rfl, hl, hlen, hf⟩ := DataW.trod_struct ht h
  match xs, hlen with
  | [y0, y1, y2], _ => exact ⟨y0, y1, y2, n, hl, by simpa using hf 0 f0 rfl, by simpa using hf 1 f1 rfl, by simpa using hf 2 f2 rfl⟩
theorem open_holding {cs : List Value} {m : Nat} {y : DataW H × List MemPlace} (h : DataW.trod enc Try.prog w base (fun _ => true) held m 119 cs = some y) :
    ∃ g : Nat → Int, cs = [.int .i64 (g 0), .int .i64 (g 1), .int .i64 (g 2), .int .i64 (g 3), .int .i64 (g 4), .int .i64 (g 5), .int .i64 (g 6)] := by
  obtain ⟨y0, y1, y2, k, hl, h0, h1, h2⟩ := trod_struct3h Try.underlying119 h
  rw [c_Holding] at hl
  dsimp only at h0 h1 h2
  rw [c_Policy] at h0
  rw [c_int] at h1 h2
  match cs, hl with
  | [c0, c1, c2, c3, c4, c5, c6], _ =>
    simp only [List.drop_zero, List.take_succ_cons, List.take_zero, List.drop_succ_cons] at h0 h1 h2
    obtain ⟨a0, a1, a2, a3, a4, e0⟩ := open_policy h0
    obtain ⟨a5, e5, _, _⟩ := DataW.trod_int Try.underlying2 h1
    obtain ⟨a6, e6, _, _⟩ := DataW.trod_int Try.underlying2 h2
    simp at e0 e5 e6
    obtain ⟨rfl, rfl, rfl, rfl, rfl⟩ := e0
    subst e5 e6
    exact ⟨fun i => [a0, a1, a2, a3, a4, a5, a6].getD i 0, rfl⟩
set_option maxRecDepth 1000000 in
theorem open_Holdings {r : Reach} {b0 : Nat} {v : Value} {d : DataW H} {p : List MemPlace} (hv : Value.okWide Try.prog w r b0 27 v) (h : DataW.Trod enc Try.prog w base (fun _ => true) held 27 v d p) :
    ∃ A n c g, v = .slice A n c ∧ InHold w A n c g := by
  obtain ⟨A, n, c, rfl⟩ := okWide_slice Try.underlying27 hv
  obtain ⟨m, hf⟩ := h
  rcases Go.Deep.open_slice Try.underlying27 hf with ⟨hcs, _⟩ | ⟨a, len, cap, m', n', D, Pl, hcs, _, hl, hm, hmm, _, hx⟩
  · simp [Value.cells] at hcs
    obtain ⟨rfl, rfl, rfl⟩ := hcs
    exact ⟨_, _, _, fun _ _ => 0, rfl, Nat.le_refl _, by omega, fun i hi => by omega⟩
  · simp [Value.cells] at hcs
    obtain ⟨rfl, rfl, rfl⟩ := hcs
    have hmm : m' = c := by simpa using hmm
    subst hmm
    have hx2 : ∀ i, i < m' → ∃ g : Nat → Int, ∀ j, j < 7 → w.cell? ((a.add (i * 7)).add j) = some (.int .i64 (g j)) := fun i hi => by
      obtain ⟨cs', h1, h2⟩ := hx i hi
      rw [c_Holding] at h1
      obtain ⟨g, rfl⟩ := open_holding h2
      obtain ⟨_, _, hcell⟩ := World.cells?_some h1
      refine ⟨g, fun j hj => ?_⟩
      have hc := hcell j hj
      have hj2 : j = 0 ∨ j = 1 ∨ j = 2 ∨ j = 3 ∨ j = 4 ∨ j = 5 ∨ j = 6 := by omega
      rcases hj2 with rfl | rfl | rfl | rfl | rfl | rfl | rfl <;> simpa using hc
    obtain ⟨g, hg⟩ := Go.Deep.choose_lt hx2
    refine ⟨_, _, _, g, rfl, hl, by unfold maxLen at hm; omega, fun i hi => ?_⟩
    obtain ⟨b, off, spot⟩ := a
    obtain rfl : spot = none := by
      have h0 := hg 0 (by omega) 0 (by omega)
      clear hg hf hx hx2
      simpa [Addr.add] using World.cell?_spot h0
    have hc : ∀ j, j < 7 → w.cell? ⟨b, off + i * 7 + j, none⟩ = some (.int .i64 (g i j)) := fun j hj => by
      have := hg i (by omega) j hj
      rwa [add_none, add_none] at this
    exact ⟨b, off, rfl, World.block_lt_of_cell? w _ (hc 0 (by omega)), hc⟩
set_option maxRecDepth 1000000 in
theorem open_Ints {r : Reach} {b0 : Nat} {v : Value} {d : DataW H} {p : List MemPlace} (hv : Value.okWide Try.prog w r b0 22 v) (h : DataW.Trod enc Try.prog w base (fun _ => true) held 22 v d p) :
    ∃ A n c f, v = .slice A n c ∧ InInts w A n c f := by
  obtain ⟨A, n, c, rfl⟩ := okWide_slice Try.underlying22 hv
  obtain ⟨m, hf⟩ := h
  obtain ⟨f, hf⟩ := open_slice64 hf
  exact ⟨A, n, c, f, rfl, hf⟩
end
end Go.Proofs.Ytdeoampkbbbleaa
