/- append of one number to a slice of the call's own, and where it lies then: as a step of a plain region and of a region that draws its order. Condition: at most 1048576 numbers. -/
import Derived.Test.YtdeoampkbbbleaaOwn
import Derived.Deep.AppendLies
namespace Go.Proofs.Ytdeoampkbbbleaa
open Go.RowKit Pu

theorem wp_push_l {W w0 : World} {ops : Array Oper} {rest : List Oper} {o : Oper} {a : Act} {Q : Exit → Act → World → Prop} {v : Value} {xs : List Int} {u : Int} (hsz : W.heap.size ≤ w0.heap.size) (hown : Own W w0 v xs)
    (hgd : o.guard = none) (s e : Operand) (ho : o.op = .call { callee := .builtin .append, args := #[s, e], argTypes := #[22, 22] })
    (hs : a.eval s = v) (he : a.eval e = .slice (some ⟨w0.heap.size, 0, none⟩) 1 1) (hlen : xs.length < 1048576)
    (h : ∀ g cap w1, Own W w1 (.slice (some ⟨g, 0, none⟩) (xs.length + 1) cap) (xs ++ [u]) → (w0.alloc (.cells #[.int .i64 u] 2)).grownBy w1 v.ownBlock → (v.ownBlock = some g ∨ g = w0.heap.size + 1) → g < w1.heap.size → wpList Try.prog ops Q rest (a.put o.dst (.slice (some ⟨g, 0, none⟩) (xs.length + 1) cap)) w1) :
    wpList Try.prog ops Q (o :: rest) a (w0.alloc (.cells #[.int .i64 u] 2)) := by
  obtain ⟨i0, hi, hz0, hz1, hz2⟩ := info_parts info64
  have hown' : Own W (w0.alloc (.cells #[.int .i64 u] 2)) v xs := World.ownsRow.alloc hown _
  refine wpList_append_lies _ hgd s e _ ho W.heap.size 2 i0 (.int .i64 0) 1 8 Try.underlying22 hi hz0 hz1 hz2 rfl (by decide) v xs.length (xs.map (Value.int .i64)) hs hown' ⟨w0.heap.size, 0, none⟩ 1 1 [.int .i64 u] he rfl ?_ (by simp [Value.oneCell']) (by omega) (by unfold maxLen; omega) (by omega) (by simp; omega) (w0.heap.size + 1) (by simp) ?_
  · intro j q hj
    match j, hj with
    | 0, hj => simp at hj; subst hj; simp [Addr.add]
  · intro g cap w1 h1 h2 h3 h4
    exact h g cap w1 (by unfold Own; simpa using h1) h2 h3 h4
theorem step_push_l {W w0 : World} {ops : Array Oper} {o : Oper} {a : Act} {K : Act → World → Prop} {Q : Exit → Act → World → Prop} {E : Prop} {v : Value} {xs : List Int} {u : Int} (hsz : W.heap.size ≤ w0.heap.size) (hown : Own W w0 v xs)
    (hgd : o.guard = none) (s e : Operand) (ho : o.op = .call { callee := .builtin .append, args := #[s, e], argTypes := #[22, 22] })
    (hs : a.eval s = v) (he : a.eval e = .slice (some ⟨w0.heap.size, 0, none⟩) 1 1) (hlen : xs.length < 1048576)
    (h : ∀ g cap w1, Own W w1 (.slice (some ⟨g, 0, none⟩) (xs.length + 1) cap) (xs ++ [u]) → (w0.alloc (.cells #[.int .i64 u] 2)).grownBy w1 v.ownBlock → (v.ownBlock = some g ∨ g = w0.heap.size + 1) → g < w1.heap.size → K (a.put o.dst (.slice (some ⟨g, 0, none⟩) (xs.length + 1) cap)) w1) :
    if Region.wanted o (yielded ops a.tmps) = true then Oper.wp Try.prog o a (w0.alloc (.cells #[.int .i64 u] 2)) K Q else E := by
  obtain ⟨i0, hi, hz0, hz1, hz2⟩ := info_parts info64
  have hown' : Own W (w0.alloc (.cells #[.int .i64 u] 2)) v xs := World.ownsRow.alloc hown _
  refine step_append_lies _ hgd s e _ ho W.heap.size 2 i0 (.int .i64 0) 1 8 Try.underlying22 hi hz0 hz1 hz2 rfl (by decide) v xs.length (xs.map (Value.int .i64)) hs hown' ⟨w0.heap.size, 0, none⟩ 1 1 [.int .i64 u] he rfl ?_ (by simp [Value.oneCell']) (by omega) (by unfold maxLen; omega) (by omega) (by simp; omega) (w0.heap.size + 1) (by simp) ?_
  · intro j q hj
    match j, hj with
    | 0, hj => simp at hj; subst hj; simp [Addr.add]
  · intro g cap w1 h1 h2 h3 h4
    exact h g cap w1 (by unfold Own; simpa using h1) h2 h3 h4

/-- As wp_push, the new number's block given as a number of its own. -/
theorem wp_push_h {W w0 : World} {ops : Array Oper} {rest : List Oper} {o : Oper} {a : Act} {Q : Exit → Act → World → Prop} {v : Value} {xs : List Int} {u : Int} (H : Nat) (hH : w0.heap.size = H) (hW : Up W w0) (hown : Own W w0 v xs)
    (hgd : o.guard = none) (s e : Operand) (ho : o.op = .call { callee := .builtin .append, args := #[s, e], argTypes := #[22, 22] })
    (hs : a.eval s = v) (he : a.eval e = .slice (some ⟨H, 0, none⟩) 1 1) (hlen : xs.length < 1048576)
    (h : ∀ v' (y : Grow W), Own W y.to v' (xs ++ [u]) → (w0.alloc (.cells #[.int .i64 u] 2)).grownBy y.to v.ownBlock → wpList Try.prog ops Q rest (a.put o.dst v') y.to) :
    wpList Try.prog ops Q (o :: rest) a (w0.alloc (.cells #[.int .i64 u] 2)) := by
  subst hH
  exact wp_push hW hown hgd s e ho hs he hlen h
end Go.Proofs.Ytdeoampkbbbleaa
