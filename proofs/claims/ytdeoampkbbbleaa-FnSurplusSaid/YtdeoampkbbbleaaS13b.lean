/- Contracts of the reference's GreatestReserve, RiskAt, BestLeaving. Condition: the slice reads as the table's numbers. -/
import Derived.Test.YtdeoampkbbbleaaS13
namespace Go.Proofs.Ytdeoampkbbbleaa
open Go.RowKit Pu

/-- A slice of a call's own reads as a function. -/
theorem Own.fn {w w' : World} {v : Value} {n : Nat} {g : Nat → Int} (h : Own w w' v ((List.range n).map g)) (hn : 0 < n) :
    ∃ b c, v = .slice (some ⟨b, 0, none⟩) n c ∧ n ≤ c ∧ c ≤ 9223372036854775807 ∧ b < w'.heap.size ∧ ∀ i, i < n → w'.cell? ⟨b, i, none⟩ = some (.int .i64 (g i)) := by
  obtain ⟨A, c, h1, h2, h3, h4⟩ := h.form
  have hl : ((List.range n).map g).length = n := by simp
  rw [hl] at h1 h2 h4
  obtain ⟨b, rfl, _, h6, h7, _⟩ := h4 hn
  refine ⟨b, c, h1, h2, h3, h6, fun i hi => ?_⟩
  rw [h7 i hi]; simp [hi]
theorem grow_fn {w : World} {b n : Nat} {g : Nat → Int} (hb : b < w.heap.size) (h : ∀ i, i < n → w.cell? ⟨b, i, none⟩ = some (.int .i64 (g i))) {i : Nat} (hi : i < n) (y : Grow w) : y.to.cell? ⟨b, i, none⟩ = some (.int .i64 (g i)) := (y.below.cell (p := ⟨b, i, none⟩) hb).trans (h i hi)

end Go.Proofs.Ytdeoampkbbbleaa
