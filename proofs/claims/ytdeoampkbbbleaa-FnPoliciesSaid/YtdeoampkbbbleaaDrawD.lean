/- Contracts of the draws of a life table and of an age. Condition: a source made since W. -/
import Derived.Test.YtdeoampkbbbleaaDrawT
namespace Go.Proofs.Ytdeoampkbbbleaa
open Go.RowKit Pu
set_option linter.unusedSimpArgs false
set_option linter.unusedVariables false

theorem s_Make (first lives : Int) (xs : List Int) (hf0 : 0 ≤ first) (hf1 : first ≤ 50) (hl0 : 1 ≤ lives) (hl1 : lives ≤ 1000000) (hx1 : 1 ≤ xs.length) (hx2 : xs.length ≤ 25) (hx : ∀ x ∈ xs, 0 ≤ x ∧ x ≤ 1000) (v : Value) (w : World) (hv : Rd w v xs) :
    Calls Try.prog 255 #[.int .i64 first, .int .i64 lives, v] w (RetMk w first) := by
  by_cases hm : (118 : Int) ≤ 149 - first
  · exact s_MakeA first lives xs hm hf0 hf1 hl0 hl1 hx1 hx2 hx v w hv
  · exact s_MakeB first lives xs hm hf0 hf1 hl0 hl1 hx1 hx2 hx v w hv
/-- A life table is drawn. -/
def RetD3 (W w : World) (b : Nat) (e : Ending) (w' : World) : Prop := ∃ v T, e = .returned v ∧ Gb b w w' ∧ Src W w' b ∧ TabOwn w w' T v ∧ (-1 ≤ T.first ∧ T.first ≤ 101) ∧ 2 ≤ T.n ∧ T.n ≤ 27
/-- The memory of l03Draw: the source, the result, the table under way with its list. -/
structure D3 (W w wr : World) (b b2 b3 g : Nat) (first : Int) (n c : Nat) (ys : List Int) : Prop where
  src : Src W wr b
  gb : Gb b w wr
  h2 : Blk wr b2 31 #[.int .i64 0, .slice none 0 0]
  h3 : Blk wr b3 31 #[.int .i64 first, .slice (some ⟨g, 0, none⟩) n c]
  own : Own w wr (.slice (some ⟨g, 0, none⟩) n c) ys
  len : ys.length = n
  l2 : w.heap.size ≤ b2
  l3 : w.heap.size ≤ b3
  lg : w.heap.size ≤ g
  n2 : b2 ≠ b
  n3 : b3 ≠ b
  n4 : b2 ≠ b3
  n5 : g ≠ b2
  n6 : g ≠ b3
  lw : W.heap.size ≤ w.heap.size
  lb : b < w.heap.size
theorem D3.on {W w wr w2 : World} {b b2 b3 g : Nat} {first : Int} {n c : Nat} {ys : List Int} (h : D3 W w wr b b2 b3 g first n c ys) (k : Gb b wr w2) (s : Src W w2 b) : D3 W w w2 b b2 b3 g first n c ys :=
  { h with src := s, gb := h.gb.trans k, h2 := h.h2.gb h.n2 k, h3 := h.h3.gb h.n3 k, own := h.own.gb h.lb k }
theorem D3.up {W w wr w2 : World} {b b2 b3 g : Nat} {first : Int} {n c : Nat} {ys : List Int} (h : D3 W w wr b b2 b3 g first n c ys) (u : Up wr w2) : D3 W w w2 b b2 b3 g first n c ys :=
  h.on (Gb.of u) (h.src.up u)
/-- A store into the list. -/
theorem D3.put {W w wr : World} {b b2 b3 g : Nat} {first : Int} {n c : Nat} {ys : List Int} (h : D3 W w wr b b2 b3 g first n c ys) (i : Nat) (u : Int) : D3 W w (wr.setCell ⟨g, i, none⟩ (.int .i64 u)) b b2 b3 g first n c (ys.set i u) := by
  have hg := h.lg; have hb := h.lb; have hw := h.lw
  have hl := h.len
  subst hl
  have e := World.ownsRow.stored h.own i (.int .i64 u)
  refine { h with src := h.src.set (p := ⟨g, i, none⟩) (by simp; omega) (by simp; omega) _, gb := h.gb.set (p := ⟨g, i, none⟩) (Or.inr (by simpa using hg)) _, h2 := h.h2.other (p := ⟨g, i, none⟩) h.n5 _, h3 := h.h3.other (p := ⟨g, i, none⟩) h.n6 _, own := ?_, len := by rw [List.length_set] }
  have e1 := e.1
  unfold Own
  rw [List.length_set, List.map_set]
  exact e1
/-- A store of the first age. -/
theorem D3.first {W w wr : World} {b b2 b3 g : Nat} {first : Int} {n c : Nat} {ys : List Int} (h : D3 W w wr b b2 b3 g first n c ys) (u : Int) : D3 W w (wr.setCell ⟨b3, 0, none⟩ (.int .i64 u)) b b2 b3 g u n c ys := by
  have hg := h.l3; have hw := h.lw
  refine { h with src := h.src.set (p := ⟨b3, 0, none⟩) (by simp; omega) h.n3 _, gb := h.gb.set (p := ⟨b3, 0, none⟩) (Or.inr (by simpa using hg)) _, h2 := h.h2.other (p := ⟨b3, 0, none⟩) (fun e => h.n4 e.symm) _, h3 := by simpa using h.h3.same 0 (.int .i64 u), own := ownsRow_setCell_other h.own (a := ⟨b3, 0, none⟩) (by simp [Value.ownBlock]; exact h.n6) _ }
/-- The end: the table is copied into the result. -/
theorem D3.fin {W w wr : World} {b b2 b3 g : Nat} {first : Int} {n c : Nat} {ys : List Int} (h : D3 W w wr b b2 b3 g first n c ys) (hf : -1 ≤ first ∧ first ≤ 101) (hn : 2 ≤ n) (hn2 : n ≤ 27) :
    RetD3 W w b (.returned (.agg #[.int .i64 first, .slice (some ⟨g, 0, none⟩) n c])) ((wr.setCell ⟨b2, 0, none⟩ (.int .i64 first)).setCell ⟨b2, 1, none⟩ (.slice (some ⟨g, 0, none⟩) n c)) := by
  have hl := h.l2; have hw := h.lw
  refine ⟨_, ⟨first, n, fun i => ys.getD i 0⟩, rfl, (h.gb.set (p := ⟨b2, 0, none⟩) (Or.inr (by simpa using hl)) _).set (p := ⟨b2, 1, none⟩) (Or.inr (by simpa using hl)) _, (h.src.set (p := ⟨b2, 0, none⟩) (by simp; omega) h.n2 _).set (p := ⟨b2, 1, none⟩) (by simp; omega) h.n2 _, ⟨by show n ≤ _; omega, some ⟨g, 0, none⟩, c, rfl, ?_⟩, hf, hn, hn2⟩
  show Own w _ (.slice (some ⟨g, 0, none⟩) n c) ((List.range n).map fun i => ys.getD i 0)
  have e : ((List.range n).map fun i => ys.getD i 0) = ys := by rw [← h.len]; exact range_getD ys
  rw [e]
  exact ownsRow_setCell_other (ownsRow_setCell_other h.own (a := ⟨b2, 0, none⟩) (by simp [Value.ownBlock]; exact h.n5) _) (a := ⟨b2, 1, none⟩) (by simp [Value.ownBlock]; exact h.n5) _
theorem d3_cells {W w wr : World} {b b2 b3 g : Nat} {first : Int} {n c : Nat} {ys : List Int} (h : D3 W w wr b b2 b3 g first n c ys) (i : Nat) (hi : i < n) : wr.cell? ⟨g, i, none⟩ = some (.int .i64 (ys.getD i 0)) ∧ wr.frozen? ⟨g, i, none⟩ = false ∧ InW wr g := by
  have hl := h.len
  obtain ⟨A, c', e, _, _, h4⟩ := h.own.form
  obtain ⟨g', e2, _, h6, h7, h8⟩ := h4 (by omega)
  injection e with e1 e3 e4
  rw [← e1] at e2
  injection e2 with e2
  injection e2 with e2 e5 e6
  subst e2
  exact ⟨h7 i (by omega), h8 i, h6⟩
set_option maxRecDepth 100000 in
set_option maxHeartbeats 4000000 in
theorem s_Draw3 {W : World} {b : Nat} (w : World) (h : Src W w b) : Calls Try.prog 182 #[.pointer (some ⟨b, 0, none⟩)] w (RetD3 W w b) := by
  have hbw := h.inw
  have hWw := h.ups.size
  go_enter Try.func182, Try.ntmps182
  go_upto_region 1 with (fail)
  have hR := Blk.new w 31 #[.int .i64 0, .slice none 0 0]
  have hs := h.up (Up.alloc (Up.refl w) (.cells #[.int .i64 0, .slice none 0 0] 31))
  have hg := (Gb.refl b w).alloc (.cells #[.int .i64 0, .slice none 0 0] 31)
  have hz : w.heap.size < (w.alloc (.cells #[.int .i64 0, .slice none 0 0] 31)).heap.size := by simp
  generalize w.alloc (.cells #[.int .i64 0, .slice none 0 0] 31) = w1 at *
  have hB2 : w.heap.size ≠ b := by omega
  go_upto_region 2 with (first
    | (go_at_call 185; have hp := s_Pick [0, 20, 30, 50] 4 rfl (by omega) (by omega) #[.int .i64 0, .int .i64 20, .int .i64 30, .int .i64 50] rfl w1.heap.size _ (hs.up (Up.alloc (Up.refl w1) _)) (Blk.new w1 _ _) (by have := hs.inw; omega); (with_reducible refine hp.mono ?_); clear hp; rintro e w2 ⟨z1, rfl, hz1, hg2, hs⟩; have hR := (hR.alloc _).gb hB2 hg2; have hg := (hg.alloc _).trans hg2; have hz1 : 0 ≤ z1 ∧ z1 ≤ 50 := (by simp at hz1; omega))
    | (go_at_call 183; (with_reducible refine (s_Next 9000 _ hs).mono ?_); rintro e w3 ⟨z2, rfl, hz2, hg3, hs⟩; have hR := hR.gb hB2 hg3; have hg := hg.trans hg3; obtain ⟨a0, a1, _⟩ := hz2; have a1 := a1 (by omega))
    | (go_at_call 185; have hp := s_Pick [1, 100, 1000, 5000 + z2] 4 rfl (by omega) (by omega) #[.int .i64 1, .int .i64 100, .int .i64 1000, .int .i64 (5000 + z2)] rfl w3.heap.size _ (hs.up (Up.alloc (Up.refl w3) _)) (Blk.new w3 _ _) (by have := hs.inw; omega); (with_reducible refine hp.mono ?_); clear hp; rintro e w4 ⟨z3, rfl, hz3, hg4, hs⟩; have hR := (hR.alloc _).gb hB2 hg4; have hg := (hg.alloc _).trans hg4; have hz3 : 1 ≤ z3 ∧ z3 ≤ 14000 := (by simp at hz3; omega))
    | (go_at_call 256; (with_reducible refine (s_Rates _ hs).mono ?_); rintro e w5 ⟨vr, xr, rfl, hg5, hs, hor, hl1, hl2, hxr⟩; have hR := hR.gb hB2 hg5; have hg := hg.trans hg5; have hz5 := hg.size; have hR0 : w.heap.size < w5.heap.size := hR.inw)
    | (go_at_call 255; (with_reducible refine (s_Make z1 z3 xr (by omega) (by omega) (by omega) (by omega) hl1 hl2 hxr _ _ hor.rd).mono ?_); rintro e w6 ⟨vt, T, rfl, hu6, ⟨hbig, A6, c6, rfl, hO6⟩, hf, hn2, hn27⟩; have hR := hR.up hu6; have hg := hg.up hu6; have hs := hs.up hu6))
  obtain ⟨n, hn⟩ : ∃ n, T.n = n := ⟨_, rfl⟩
  have hO := hO6.form
  obtain ⟨A7, c7, hv7, hc7, hm7, hA7⟩ := hO
  obtain ⟨g, hA8, hg1, hg2, _, _⟩ := hA7 (by simp; omega)
  have hl : ((List.range T.n).map T.f).length = n := by simp [hn]
  injection hv7 with e1 e2 e3
  subst e1; subst e3; subst hA8
  rw [hn] at hO6 hbig hn2 hn27 hl ⊢
  have hO7 := (hO6.base (w0 := w) hz5).up (Up.alloc (Up.refl w6) (.cells #[.int .i64 z1, .slice (some ⟨g, 0, none⟩) n c6] 31))
  generalize (List.range n).map T.f = ys at *
  have hz6 := hu6.size
  have hws := hg.size
  have hD : D3 W w (w6.alloc (.cells #[.int .i64 z1, .slice (some ⟨g, 0, none⟩) n c6] 31)) b w.heap.size w6.heap.size g z1 n c6 ys :=
    { src := hs.up (Up.alloc (Up.refl w6) _), gb := hg.alloc _, h2 := hR.alloc _, h3 := Blk.new w6 _ _, own := hO7, len := hl, l2 := Nat.le_refl _, l3 := hws, lg := Nat.le_trans hz5 hg1, n2 := hB2, n3 := by omega, n4 := by have := hR.inw; unfold InW at this; omega, n5 := by have := hR0; omega, n6 := by omega, lw := hWw, lb := hbw }
  have hc6 : n ≤ c6 := by omega
  have hc7' : c6 ≤ 9223372036854775807 := hm7
  generalize w6.alloc (.cells #[.int .i64 z1, .slice (some ⟨g, 0, none⟩) n c6] 31) = w7 at *
  generalize w6.heap.size = B3 at *
  clear hR hg hs hO6 hO7 hor hxr
  go_upto_region 3 with (go_at_call 183; (with_reducible refine (s_Next 60 _ hD.src).mono ?_); rintro e w8 ⟨z, rfl, hz8, hg8, hs8⟩; have hD := hD.on hg8 hs8)
  have q0 := hD.h3.cell 0; have q1 := hD.h3.cell 1; have qf := hD.h3.frozen; have qi := hD.h3.inw
  have p0 := hD.h2.cell 0; have p1 := hD.h2.cell 1; have pf := hD.h2.frozen; have pi_ := hD.h2.inw
  have m1 : ¬ w.heap.size = B3 := hD.n4
  have m2 : ¬ B3 = w.heap.size := fun e => hD.n4 e.symm
  have m3 : ¬ g = B3 := hD.n6
  have m4 : ¬ B3 = g := fun e => hD.n6 e.symm
  have m5 : ¬ g = w.heap.size := hD.n5
  have m6 : ¬ w.heap.size = g := fun e => hD.n5 e.symm
  have HD := Lib.hid hD
  have GC := Lib.hid (d3_cells hD)
  have hz0 := hz8.1
  clear hD
  by_cases k0 : z = 0
  · subst k0
    have g0 := (GC.out 0 (by omega)).1
    have gf := (GC.out 0 (by omega)).2.1
    have gi := (GC.out 0 (by omega)).2.2
    have b0 : (0 : Int) < n := by omega
    have b0n : 0 < n := by omega
    have b0z : (n == 0) = false := by simp; omega
    have b0i : (n : Int) ≠ 0 := by omega
    have b0m : n ≠ 0 := by omega
    go_upto_region 4 with (fail)
    go_region_held3 (fun w' => w'.cell? ⟨B3, 1, none⟩ = some (.slice (some ⟨g, 0, none⟩) n c6)) ((repeat' apply And.intro) <;> go_simp)
      (first | (go_at_call 185; have hp := s_Pick [0, 1000000, 1000001] 3 rfl (by omega) (by omega) #[.int .i64 0, .int .i64 1000000, .int .i64 1000001] rfl w8.heap.size _ (HD.out.src.up (Up.drew (Up.alloc (Up.refl w8) _))) (Blk.new w8 _ _).drew (by have := HD.out.src.inw; omega); (with_reducible refine hp.mono ?_); clear hp; rintro e w9 ⟨z4, rfl, hz4, hg9, hs9⟩; have hD9 := HD.out.on ((Gb.of (Up.drew (Up.alloc (Up.refl w8) _))).trans hg9) hs9; have q0 := hD9.h3.cell 0; have q1 := hD9.h3.cell 1; have qf := hD9.h3.frozen; have qi := hD9.h3.inw; have p0 := hD9.h2.cell 0; have p1 := hD9.h2.cell 1; have pf := hD9.h2.frozen; have pi_ := hD9.h2.inw; have g0 := (d3_cells hD9 0 (by omega)).1; have gf := (d3_cells hD9 0 (by omega)).2.1; have gi := (d3_cells hD9 0 (by omega)).2.2))
    all_goals
      go_wp2
      refine bodyPost_ret (v := .agg #[.int .i64 z1, .slice (some ⟨g, 0, none⟩) n c6]) (by simp [results, Try.results182, go_sem, p0, p1, pf, pi_, m1, m2, m5, m6]) rfl ?_
      exact D3.fin (hD9.put 0 z4) (by omega) (by omega) (by omega)
  have k0' : (z == 0) = false := by simpa using k0
  by_cases k1 : z = 1
  · subst k1
    have g0 := (GC.out (n - 1) (by omega)).1
    have gf := (GC.out (n - 1) (by omega)).2.1
    have gi := (GC.out (n - 1) (by omega)).2.2
    have i1 : IntKind.i64.wrap ((n : Int) - 1) = (n : Int) - 1 := IntWalk.i64_in _ (by omega)
    have i2 : ((n : Int) - 1).toNat = n - 1 := by omega
    have b0 : (0 : Int) ≤ (n : Int) - 1 := by omega
    have b1 : (n : Int) - 1 < n := by omega
    go_wp2
    refine bodyPost_ret (v := .agg #[.int .i64 z1, .slice (some ⟨g, 0, none⟩) n c6]) (by simp [results, Try.results182, go_sem, p0, p1, pf, pi_, m1, m2, m5, m6]) rfl ?_
    exact D3.fin (HD.out.put (n - 1) 1) (by omega) (by omega) (by omega)
  have k1' : (z == 1) = false := by simpa using k1
  by_cases k2 : z = 2
  · subst k2
    go_wp2_with (first | (go_at_call 185; have hp := s_Pick [-1, 100, 101] 3 rfl (by omega) (by omega) #[.int .i64 (-1), .int .i64 100, .int .i64 101] rfl w8.heap.size _ (HD.out.src.up (Up.alloc (Up.refl w8) _)) (Blk.new w8 _ _) (by have := HD.out.src.inw; omega); (with_reducible refine hp.mono ?_); clear hp; rintro e w9 ⟨z4, rfl, hz4, hg9, hs9⟩; have hD9 := HD.out.on ((Gb.of (Up.alloc (Up.refl w8) _)).trans hg9) hs9; have q0 := hD9.h3.cell 0; have q1 := hD9.h3.cell 1; have qf := hD9.h3.frozen; have qi := hD9.h3.inw; have p0 := hD9.h2.cell 0; have p1 := hD9.h2.cell 1; have pf := hD9.h2.frozen; have pi_ := hD9.h2.inw))
    refine bodyPost_ret (v := .agg #[.int .i64 z4, .slice (some ⟨g, 0, none⟩) n c6]) (by simp [results, Try.results182, go_sem, p0, p1, pf, pi_, m1, m2, m5, m6]) rfl ?_
    exact D3.fin (hD9.first z4) (by simp at hz4; omega) (by omega) (by omega)
  have k2' : (z == 2) = false := by simpa using k2
  go_wp2
  refine bodyPost_ret (v := .agg #[.int .i64 z1, .slice (some ⟨g, 0, none⟩) n c6]) (by simp [results, Try.results182, go_sem, p0, p1, pf, pi_, m1, m2, m5, m6]) rfl ?_
  exact D3.fin HD.out (by omega) (by omega) (by omega)
/-- The end of a table that is drawn, whatever its first age. -/
theorem s_EndD {T : Tab} (hf : -1 ≤ T.first ∧ T.first ≤ 101) (hn : T.n ≤ 27) (v : Value) (w : World) (hv : TabAt w T v) : Calls Try.prog 179 #[v] w (Ret w (.int .i64 (T.first + T.n - 1))) := by
  obtain ⟨A, c, rfl, hc, hm, _, hI⟩ := hv
  go_enter Try.func179, Try.ntmps179
  go_wp2
  go_ret
  exact ⟨rfl, (by repeat' (first | (with_reducible exact Up.refl _) | (with_reducible assumption) | (with_reducible refine Up.alloc ?_ _) | (with_reducible refine Up.drew ?_) | (with_reducible refine Up.grow ?_ _) | (with_reducible refine Up.setCell ?_ (by (try simp); (try omega)) _)))⟩
set_option maxRecDepth 100000 in
set_option maxHeartbeats 4000000 in
theorem s_DrawAge {W : World} {b : Nat} (T : Tab) (hf : -1 ≤ T.first ∧ T.first ≤ 101) (hn : 2 ≤ T.n ∧ T.n ≤ 27) (v : Value) (w : World) (h : Src W w b) (hv : TabAt w T v) (hk : ∀ w', Gb b w w' → TabAt w' T v) :
    Calls Try.prog 184 #[.pointer (some ⟨b, 0, none⟩), v] w (RetDraw W w b (fun _ => True)) := by
  have hbw := h.inw
  have hWw := h.ups.size
  have hv' := hv
  obtain ⟨A, c, rfl, hc, hm, hbig, hI⟩ := hv
  have HE := Lib.hid (s_EndD (T := T) hf hn.2)
  have hz := World.size_alloc w (.cells #[.int .i64 T.first, .slice A T.n c] 31)
  have hR := Blk.new w 31 #[.int .i64 T.first, .slice A T.n c]
  have hs := h.up (Up.alloc (Up.refl w) (.cells #[.int .i64 T.first, .slice A T.n c] 31))
  have hg := (Gb.refl b w).alloc (.cells #[.int .i64 T.first, .slice A T.n c] 31)
  have i1 : IntKind.i64.wrap (T.first - 1) = T.first - 1 := IntWalk.i64_in _ (by omega)
  have i2 : IntKind.i64.wrap (T.first + T.n) = T.first + T.n := IntWalk.i64_in _ (by omega)
  go_enter Try.func184, Try.ntmps184
  go_upto_region 1 with (fail)
  generalize w.alloc (.cells #[.int .i64 T.first, .slice A T.n c] 31) = w1 at *
  go_upto_region 2 with (go_at_call 183; (with_reducible refine (s_Next 24 _ hs).mono ?_); rintro e w2 ⟨z1, rfl, hz1, hg2, hs⟩; have hR := hR.gb (by omega) hg2; have hg := hg.trans hg2)
  · have hk2 := hk w2 hg
    have hne : w.heap.size ≠ b := by omega
    have q0 := hR.cell 0; have q1 := hR.cell 1; have qi := hR.inw
    go_region_held3 (fun w' => w'.cell? ⟨w.heap.size, 0, none⟩ = some (.int .i64 T.first) ∧ w'.cell? ⟨w.heap.size, 1, none⟩ = some (.slice A T.n c)) ((repeat' apply And.intro) <;> go_simp)
      (first
        | (go_at_call 179; (with_reducible refine (HE.out _ w2.drew (hk2.up (Up.drew (Up.refl w2)))).mono ?_); rintro e w3 ⟨rfl, hb3⟩; have hb3 := (Up.drew (Up.refl w2)).trans hb3; have hR := hR.up hb3; have q0 := hR.cell 0; have q1 := hR.cell 1; have qi := hR.inw)
        | (go_at_call 179; (with_reducible refine (HE.out _ w3 (hk2.up hb3)).mono ?_); rintro e w4 ⟨rfl, hb4⟩; have hR := hR.up hb4; have hb4 := hb3.trans hb4; have q0 := hR.cell 0; have q1 := hR.cell 1; have qi := hR.inw)
        | (go_at_call 185; have hp := s_Pick [T.first - 1, T.first + T.n - 1, T.first + T.n, 150, 151] 5 rfl (by omega) (by omega) #[.int .i64 (T.first - 1), .int .i64 (T.first + T.n - 1), .int .i64 (T.first + T.n), .int .i64 150, .int .i64 151] rfl w4.heap.size _ ((hs.up hb4).up (Up.alloc (Up.refl w4) _)) (Blk.new w4 _ _) (by have := (hs.up hb4).inw; omega); (with_reducible refine hp.mono ?_); clear hp; rintro e w5 ⟨z, rfl, hz5, hg5, hs5⟩; have hR := (hR.alloc _).gb hne hg5; have q0 := hR.cell 0; have q1 := hR.cell 1; have qi := hR.inw))
    all_goals
      go_wp2
      go_ret
      exact ⟨_, rfl, trivial, (hg.up (Up.alloc hb4 _)).trans hg5, hs5⟩
  · have hne : w.heap.size ≠ b := by omega
    have q0 := hR.cell 0; have q1 := hR.cell 1; have qi := hR.inw
    go_region_held3 (fun w' => w'.cell? ⟨w.heap.size, 0, none⟩ = some (.int .i64 T.first) ∧ w'.cell? ⟨w.heap.size, 1, none⟩ = some (.slice A T.n c)) ((repeat' apply And.intro) <;> go_simp)
      (first
        | (go_at_call 183; (with_reducible refine (s_Next T.n w2.drew (hs.up (Up.drew (Up.refl w2)))).mono ?_); rintro e w3 ⟨z, rfl, hz3, hg3, hs3⟩; have hg3 := (Gb.of (Up.drew (Up.refl w2))).trans hg3; have hR := hR.gb hne hg3; have q0 := hR.cell 0; have q1 := hR.cell 1; have qi := hR.inw))
    all_goals
      go_wp2
      go_ret
      exact ⟨_, rfl, trivial, hg.trans hg3, hs3⟩
end Go.Proofs.Ytdeoampkbbbleaa
