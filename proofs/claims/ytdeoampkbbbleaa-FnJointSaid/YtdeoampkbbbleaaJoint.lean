/- Words for the joint table: append where it lies, the memory of the loops. Conditions: what each names. -/
import Derived.Test.YtdeoampkbbbleaaS08
import Derived.Test.YtdeoampkbbbleaaPush
namespace Go.Proofs.Ytdeoampkbbbleaa
open Go.RowKit Pu

/-- The memory of the joint table's loops: the two tables, the result, the table under way with its list. -/
structure JAt (w wr : World) (b4 b6 b8 b9 : Nat) (cT cU : Array Value) (x : Int) (vo : Value) (xs : List Int) : Prop where
  up : Up w wr
  h4 : Blk wr b4 31 cT
  h6 : Blk wr b6 31 cU
  h8 : Blk wr b8 31 #[.int .i64 0, .slice none 0 0]
  h9 : Blk wr b9 31 #[.int .i64 x, vo]
  own : Own w wr vo xs
  n4 : vo.ownBlock ≠ some b4
  n6 : vo.ownBlock ≠ some b6
  n8 : vo.ownBlock ≠ some b8
  n9 : vo.ownBlock ≠ some b9
  d4 : b4 ≠ b9
  d6 : b6 ≠ b9
  d8 : b8 ≠ b9
  l8 : w.heap.size ≤ b8
  l9 : w.heap.size ≤ b9
theorem JAt.grow {w wr w2 : World} {b4 b6 b8 b9 : Nat} {cT cU : Array Value} {x : Int} {vo : Value} {xs : List Int} (h : JAt w wr b4 b6 b8 b9 cT cU x vo xs) (u : Up wr w2) : JAt w w2 b4 b6 b8 b9 cT cU x vo xs :=
  ⟨h.up.trans u, h.h4.up u, h.h6.up u, h.h8.up u, h.h9.up u, h.own.up u, h.n4, h.n6, h.n8, h.n9, h.d4, h.d6, h.d8, h.l8, h.l9⟩
/-- Behind the append, ahead of the store. -/
theorem JAt.push {w w0 w1 : World} {b4 b6 b8 b9 : Nat} {cT cU : Array Value} {x : Int} {vo : Value} {xs : List Int} {g cap : Nat} {u : Int} (h : JAt w w0 b4 b6 b8 b9 cT cU x vo xs)
    (hg : (w0.alloc (.cells #[.int .i64 u] 2)).grownBy w1 vo.ownBlock) :
    Up w w1 ∧ Blk w1 b4 31 cT ∧ Blk w1 b6 31 cU ∧ Blk w1 b8 31 #[.int .i64 0, .slice none 0 0] ∧ Blk w1 b9 31 #[.int .i64 x, vo] := by
  have _ := cap; have _ := g
  refine ⟨(h.up.alloc _).far hg fun k hk => (World.ownsRow.lt h.own k hk).1, blk_far (h.h4.alloc _) hg ?_, blk_far (h.h6.alloc _) hg ?_, blk_far (h.h8.alloc _) hg ?_, blk_far (h.h9.alloc _) hg ?_⟩
  · intro k hk e; exact h.n4 (by rw [hk, e])
  · intro k hk e; exact h.n6 (by rw [hk, e])
  · intro k hk e; exact h.n8 (by rw [hk, e])
  · intro k hk e; exact h.n9 (by rw [hk, e])
/-- Behind the store. -/
theorem JAt.stored {w w0 w1 : World} {b4 b6 b8 b9 : Nat} {cT cU : Array Value} {x : Int} {vo : Value} {xs : List Int} {g cap : Nat} {u : Int} (h : JAt w w0 b4 b6 b8 b9 cT cU x vo xs)
    (hg : (w0.alloc (.cells #[.int .i64 u] 2)).grownBy w1 vo.ownBlock) (hown : Own w w1 (.slice (some ⟨g, 0, none⟩) (xs.length + 1) cap) (xs ++ [u])) (hat : vo.ownBlock = some g ∨ g = w0.heap.size + 1) :
    JAt w (w1.setCell ⟨b9, 1, none⟩ (.slice (some ⟨g, 0, none⟩) (xs.length + 1) cap)) b4 b6 b8 b9 cT cU x (.slice (some ⟨g, 0, none⟩) (xs.length + 1) cap) (xs ++ [u]) := by
  obtain ⟨p0, p4, p6, p8, p9⟩ := h.push (g := g) (cap := cap) hg
  have ne : ∀ b, vo.ownBlock ≠ some b → InW w0 b → g ≠ b := fun b h1 h2 e => by
    rcases hat with h3 | h3
    · exact h1 (by rw [h3, e])
    · unfold InW at h2; omega
  have m4 := ne b4 h.n4 h.h4.inw; have m6 := ne b6 h.n6 h.h6.inw; have m8 := ne b8 h.n8 h.h8.inw; have m9 := ne b9 h.n9 h.h9.inw
  refine ⟨p0.setCell h.l9 _, p4.other (fun e => h.d4 e.symm) _, p6.other (fun e => h.d6 e.symm) _, p8.other (fun e => h.d8 e.symm) _, by simpa using p9.same 1 (.slice (some ⟨g, 0, none⟩) (xs.length + 1) cap), ownsRow_setCell_other hown (a := ⟨b9, 1, none⟩) (by simp [Value.ownBlock]; omega) _, ?_, ?_, ?_, ?_, h.d4, h.d6, h.d8, h.l8, h.l9⟩
  · simp [Value.ownBlock]; exact m4
  · simp [Value.ownBlock]; exact m6
  · simp [Value.ownBlock]; exact m8
  · simp [Value.ownBlock]; exact m9

theorem s_LivesKM {T : Tab} (hT : T.Ok) (i k : Nat) (h2 : T.first + i + k ≤ 400) (v : Value) (w : World) (hv : TabAt w T v) :
    Calls Try.prog 157 #[v, .int .i64 (T.first + i + k)] w (Ret w (.int .i64 (T.lv (i + k)))) := by
  have h := s_Lives hT (T.first + i + k) (by omega) h2 v w hv; rwa [kmm] at h
theorem s_LivesK {T : Tab} (hT : T.Ok) (i : Nat) (h2 : T.first + i ≤ 400) (v : Value) (w : World) (hv : TabAt w T v) :
    Calls Try.prog 157 #[v, .int .i64 (T.first + i)] w (Ret w (.int .i64 (T.lv i))) := by
  have h := s_Lives hT (T.first + i) (by omega) h2 v w hv; rwa [kk] at h
theorem i_LivesKM {T : Tab} (hT : T.Ok) (i k : Nat) (h2 : T.first + i + k ≤ 400) (v : Value) (w : World) (hv : TabAt w T v) :
    Calls Try.prog 161 #[v, .int .i64 (T.first + i + k)] w (Ret w (.int .i64 (T.lv (i + k)))) := by
  have h := i_Lives hT (T.first + i + k) (by omega) h2 v w hv; rwa [kmm] at h

section
variable {T U : Tab} (hT : T.Ok) (hU : U.Ok) {i j : Nat} (hi : i + 1 < T.n) (hj : j + 1 < U.n)
include hT hU hi hj
/-- The numbers of a round. -/
theorem both_nums (k : Nat) : 0 ≤ T.lv (i + k) ∧ T.lv (i + k) ≤ 1000000 ∧ 0 ≤ U.lv (j + k) ∧ U.lv (j + k) ≤ 1000000 ∧ 1 ≤ U.lv j ∧ 0 ≤ T.lv (i + k) * U.lv (j + k) ∧ T.lv (i + k) * U.lv (j + k) ≤ 1000000000000 := by
  have h1 := hT.lv_bd (i + k); have h2 := hU.lv_bd (j + k); have h3 := hU.lv_pos hj
  have m1 : 0 ≤ T.lv (i + k) * U.lv (j + k) := Int.mul_nonneg h1.1 h2.1
  have m2 := Int.mul_le_mul h1.2 h2.2 h2.1 (by omega : (0 : Int) ≤ 1000000)
  have _ := hi
  omega
/-- Where the loop ends. -/
theorem joint_end {k : Nat} (h0 : T.both U i j k = 0) (hne : ∀ l, l < k → T.both U i j l ≠ 0) : fz (T.both U i j) T.n 0 = k := by
  obtain ⟨p1, _, _, p4⟩ := hT.joint_spec hU hi hj
  rcases Nat.lt_trichotomy k (fz (T.both U i j) T.n 0) with h | h | h
  · have := p4 k h; omega
  · exact h.symm
  · exact absurd p1 (hne _ h)
theorem joint_more {k : Nat} (hne : ∀ l, l < k → T.both U i j l ≠ 0) : k + i + 1 ≤ T.n := by
  rcases Nat.lt_or_ge (k + i) T.n with h | h
  · omega
  · exact absurd (hT.both_out hU hi hj (by omega)) (hne (T.n - 1 - i) (by omega))
end
end Go.Proofs.Ytdeoampkbbbleaa
