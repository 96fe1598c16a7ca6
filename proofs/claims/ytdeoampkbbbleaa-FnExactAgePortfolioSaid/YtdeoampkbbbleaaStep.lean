/- append of one number to a slice of the call's own, as one step of a region that draws its order. Condition: at most 1048576 numbers. -/
import Derived.Test.YtdeoampkbbbleaaOwn
import Derived.Deep.RegionLaw
import Derived.Deep.RegionHeld3
namespace Go.Proofs.Ytdeoampkbbbleaa
open Go.RowKit Pu

/-- The block that was laid first lies in whatever has grown since. -/
theorem InW.box {w : World} {o : Obj} (x : Grow (w.alloc o)) : InW x.to w.heap.size = True := by
  have h := x.size; simp at h; exact eq_true (by unfold InW; omega)
attribute [go_sem] InW.box

theorem step_push {W w0 : World} {ops : Array Oper} {o : Oper} {a : Act} {K : Act → World → Prop} {Q : Exit → Act → World → Prop} {E : Prop} {v : Value} {xs : List Int} {u : Int} (hW : Up W w0) (hown : Own W w0 v xs)
    (hgd : o.guard = none) (s e : Operand) (ho : o.op = .call { callee := .builtin .append, args := #[s, e], argTypes := #[22, 22] })
    (hs : a.eval s = v) (he : a.eval e = .slice (some ⟨w0.heap.size, 0, none⟩) 1 1) (hlen : xs.length < 1048576)
    (h : ∀ v' (y : Grow W), Own W y.to v' (xs ++ [u]) → (w0.alloc (.cells #[.int .i64 u] 2)).grownBy y.to v.ownBlock → K (a.put o.dst v') y.to) :
    if Region.wanted o (yielded ops a.tmps) = true then Oper.wp Try.prog o a (w0.alloc (.cells #[.int .i64 u] 2)) K Q else E := by
  have hw : Region.wanted o (yielded ops a.tmps) = true := by simp [Region.wanted, hgd]
  rw [if_pos hw]
  obtain ⟨i0, hi, hz0, hz1, hz2⟩ := info_parts info64
  have hown' : Own W (w0.alloc (.cells #[.int .i64 u] 2)) v xs := World.ownsRow.alloc hown _
  refine wp_append_own _ s e _ ho W.heap.size 2 i0 (.int .i64 0) 1 8 Try.underlying22 hi hz0 hz1 hz2 rfl (by decide) v xs.length (xs.map (Value.int .i64)) hs hown' ⟨w0.heap.size, 0, none⟩ 1 1 [.int .i64 u] he rfl ?_ (by simp [Value.oneCell']) (by unfold maxLen; omega) (by omega) (by have := hW.size; simp; omega) ?_
  · intro j q hj
    match j, hj with
    | 0, hj => simp at hj; subst hj; simp [Addr.add]
  · intro v' w1 h1 h2 _
    have hb : Below W.heap.size W w1 := (hW.alloc _).grown h2 (by have := hW.size; simp; omega) (fun k hk => (hown'.lt k hk).1)
    obtain ⟨y, rfl⟩ := Grow.mk' hb
    exact h v' y (by unfold Own; simpa using h1) h2
end Go.Proofs.Ytdeoampkbbbleaa
