/- Words on holdings: slices of seven numbers each; the given helpers of the laws over them (size, copy, equal). Conditions: at most 1048576 holdings. -/
import Derived.Test.YtdeoampkbbbleaaLawBH
import Derived.Test.YtdeoampkbbbleaaICols
namespace Go.Proofs.Ytdeoampkbbbleaa
open Go.RowKit Pu
set_option linter.unusedVariables false
set_option linter.unusedSimpArgs false

theorem infoHold : (Try.prog.info? 113).map (fun i => (i.zero, i.size, i.bytes)) = some (some (.agg #[.int .i64 0, .int .i64 0, .int .i64 0, .int .i64 0, .int .i64 0, .int .i64 0, .int .i64 0]), 7, 56) := by kernel_rfl
/-- The slice at A holds n holdings, read as g. -/
def HInts (w : World) (A : Option Addr) (n : Nat) (g : Nat → Nat → Int) : Prop := ∀ i, i < n → ∃ b off, A = some ⟨b, off, none⟩ ∧ b < w.heap.size ∧ ∀ j, j < 7 → w.cell? ⟨b, off + i * 7 + j, none⟩ = some (.int .i64 (g i j))
theorem HInts.up {w w' : World} {A n g} (h : HInts w A n g) (u : Up w w') : HInts w' A n g := fun i hi => by
  obtain ⟨b, off, e, hb, hc⟩ := h i hi
  exact ⟨b, off, e, Nat.lt_of_lt_of_le hb u.size, fun j hj => (u.cell (p := ⟨b, off + i * 7 + j, none⟩) hb).trans (hc j hj)⟩
/-- The holding as a value. -/
abbrev holdV (g : Nat → Int) : Value := .agg #[.int .i64 (g 0), .int .i64 (g 1), .int .i64 (g 2), .int .i64 (g 3), .int .i64 (g 4), .int .i64 (g 5), .int .i64 (g 6)]
/-- The slice v reads as n holdings. -/
def HAt (w : World) (v : Value) (n : Nat) (g : Nat → Nat → Int) : Prop := ∃ A c, v = .slice A n c ∧ n ≤ c ∧ c ≤ 9223372036854775807 ∧ HInts w A n g
theorem HAt.up {w w' : World} {v n g} (h : HAt w v n g) (u : Up w w') : HAt w' v n g := by
  obtain ⟨A, c, h1, h2, h3, h4⟩ := h
  exact ⟨A, c, h1, h2, h3, h4.up u⟩
theorem HInts.seven {w : World} {A n g} (h : HInts w A n g) {i : Nat} (hi : i < n) : ∃ b off, A = some ⟨b, off, none⟩ ∧ InW w b ∧ w.cell? ⟨b, off + i * 7, none⟩ = some (.int .i64 (g i 0)) ∧ w.cell? ⟨b, off + i * 7 + 1, none⟩ = some (.int .i64 (g i 1)) ∧ w.cell? ⟨b, off + i * 7 + 2, none⟩ = some (.int .i64 (g i 2)) ∧ w.cell? ⟨b, off + i * 7 + 3, none⟩ = some (.int .i64 (g i 3)) ∧ w.cell? ⟨b, off + i * 7 + 4, none⟩ = some (.int .i64 (g i 4)) ∧ w.cell? ⟨b, off + i * 7 + 5, none⟩ = some (.int .i64 (g i 5)) ∧ w.cell? ⟨b, off + i * 7 + 6, none⟩ = some (.int .i64 (g i 6)) := by
  obtain ⟨b, off, e, hb, hc⟩ := h i hi
  exact ⟨b, off, e, hb, hc 0 (by omega), hc 1 (by omega), hc 2 (by omega), hc 3 (by omega), hc 4 (by omega), hc 5 (by omega), hc 6 (by omega)⟩
theorem l_SzH (A : Option Addr) (n c : Nat) (hn : n ≤ 9223372036854775807) (left : Int) (h0 : 0 ≤ left) (h1 : left ≤ 1048576) (w : World) :
    Calls Try.prog 19 #[.slice A n c, .int .i64 left] w (Ret w (.int .i64 (if left < n then -1 else left - n))) := by
  by_cases h : left < n
  · rw [if_pos h]
    go_enter Try.func19, Try.ntmps19
    go_wp2
    go_ret
    exact ⟨rfl, (by repeat' (first | (with_reducible exact Up.refl _) | (with_reducible assumption) | (with_reducible refine Up.alloc ?_ _) | (with_reducible refine Up.drew ?_) | (with_reducible refine Up.grow ?_ _) | (with_reducible refine Up.setCell ?_ (by (try simp); (try omega)) _)))⟩
  · rw [if_neg h]
    go_enter Try.func19, Try.ntmps19
    go_wp2
    go_ret
    exact ⟨rfl, (by repeat' (first | (with_reducible exact Up.refl _) | (with_reducible assumption) | (with_reducible refine Up.alloc ?_ _) | (with_reducible refine Up.drew ?_) | (with_reducible refine Up.grow ?_ _) | (with_reducible refine Up.setCell ?_ (by (try simp); (try omega)) _)))⟩
set_option maxRecDepth 100000 in
set_option maxHeartbeats 2000000 in
theorem l_CopyHol (a0 a1 a2 a3 a4 a5 a6 : Int) (w : World) : Calls Try.prog 144 #[.agg #[.int .i64 a0, .int .i64 a1, .int .i64 a2, .int .i64 a3, .int .i64 a4, .int .i64 a5, .int .i64 a6]] w (Ret w (.agg #[.int .i64 a0, .int .i64 a1, .int .i64 a2, .int .i64 a3, .int .i64 a4, .int .i64 a5, .int .i64 a6])) := by
  have h1 : Blk (((w.alloc (.cells #[.int .i64 a0, .int .i64 a1, .int .i64 a2, .int .i64 a3, .int .i64 a4, .int .i64 a5, .int .i64 a6] 119)).alloc (.cells #[.int .i64 0, .int .i64 0, .int .i64 0, .int .i64 0, .int .i64 0, .int .i64 0, .int .i64 0] 113)).alloc (.cells #[.int .i64 0, .int .i64 0, .int .i64 0, .int .i64 0, .int .i64 0, .int .i64 0, .int .i64 0] 113)) w.heap.size 119 #[.int .i64 a0, .int .i64 a1, .int .i64 a2, .int .i64 a3, .int .i64 a4, .int .i64 a5, .int .i64 a6] := ((Blk.new _ _ _).alloc _).alloc _
  have h2 : Blk (((w.alloc (.cells #[.int .i64 a0, .int .i64 a1, .int .i64 a2, .int .i64 a3, .int .i64 a4, .int .i64 a5, .int .i64 a6] 119)).alloc (.cells #[.int .i64 0, .int .i64 0, .int .i64 0, .int .i64 0, .int .i64 0, .int .i64 0, .int .i64 0] 113)).alloc (.cells #[.int .i64 0, .int .i64 0, .int .i64 0, .int .i64 0, .int .i64 0, .int .i64 0, .int .i64 0] 113)) (w.heap.size + 1) 113 #[.int .i64 0, .int .i64 0, .int .i64 0, .int .i64 0, .int .i64 0, .int .i64 0, .int .i64 0] := by
    have h := (Blk.new (w.alloc (.cells #[.int .i64 a0, .int .i64 a1, .int .i64 a2, .int .i64 a3, .int .i64 a4, .int .i64 a5, .int .i64 a6] 119)) 113 #[.int .i64 0, .int .i64 0, .int .i64 0, .int .i64 0, .int .i64 0, .int .i64 0, .int .i64 0]).alloc (.cells #[.int .i64 0, .int .i64 0, .int .i64 0, .int .i64 0, .int .i64 0, .int .i64 0, .int .i64 0] 113)
    simpa only [World.size_alloc] using h
  have h3 : Blk (((w.alloc (.cells #[.int .i64 a0, .int .i64 a1, .int .i64 a2, .int .i64 a3, .int .i64 a4, .int .i64 a5, .int .i64 a6] 119)).alloc (.cells #[.int .i64 0, .int .i64 0, .int .i64 0, .int .i64 0, .int .i64 0, .int .i64 0, .int .i64 0] 113)).alloc (.cells #[.int .i64 0, .int .i64 0, .int .i64 0, .int .i64 0, .int .i64 0, .int .i64 0, .int .i64 0] 113)) (w.heap.size + 1 + 1) 113 #[.int .i64 0, .int .i64 0, .int .i64 0, .int .i64 0, .int .i64 0, .int .i64 0, .int .i64 0] := by
    have h := Blk.new ((w.alloc (.cells #[.int .i64 a0, .int .i64 a1, .int .i64 a2, .int .i64 a3, .int .i64 a4, .int .i64 a5, .int .i64 a6] 119)).alloc (.cells #[.int .i64 0, .int .i64 0, .int .i64 0, .int .i64 0, .int .i64 0, .int .i64 0, .int .i64 0] 113)) 113 #[.int .i64 0, .int .i64 0, .int .i64 0, .int .i64 0, .int .i64 0, .int .i64 0, .int .i64 0]
    simpa only [World.size_alloc] using h
  have hup : Up w (((w.alloc (.cells #[.int .i64 a0, .int .i64 a1, .int .i64 a2, .int .i64 a3, .int .i64 a4, .int .i64 a5, .int .i64 a6] 119)).alloc (.cells #[.int .i64 0, .int .i64 0, .int .i64 0, .int .i64 0, .int .i64 0, .int .i64 0, .int .i64 0] 113)).alloc (.cells #[.int .i64 0, .int .i64 0, .int .i64 0, .int .i64 0, .int .i64 0, .int .i64 0, .int .i64 0] 113)) := (by repeat' (first | (with_reducible exact Up.refl _) | (with_reducible assumption) | (with_reducible refine Up.alloc ?_ _) | (with_reducible refine Up.drew ?_) | (with_reducible refine Up.grow ?_ _) | (with_reducible refine Up.setCell ?_ (by (try simp); (try omega)) _)))
  have hB2 : w.heap.size ≤ w.heap.size + 1 := by omega
  have hB3 : w.heap.size ≤ w.heap.size + 1 + 1 := by omega
  have m1 : ¬ w.heap.size + 1 + 1 = w.heap.size + 1 := by omega
  have m2 : ¬ w.heap.size + 1 = w.heap.size + 1 + 1 := by omega
  have m3 : ¬ w.heap.size + 1 + 1 = w.heap.size := by omega
  have m4 : ¬ w.heap.size = w.heap.size + 1 + 1 := by omega
  go_enter Try.func144, Try.ntmps144
  go_upto_region 2 with (fail)
  generalize ((w.alloc (.cells #[.int .i64 a0, .int .i64 a1, .int .i64 a2, .int .i64 a3, .int .i64 a4, .int .i64 a5, .int .i64 a6] 119)).alloc (.cells #[.int .i64 0, .int .i64 0, .int .i64 0, .int .i64 0, .int .i64 0, .int .i64 0, .int .i64 0] 113)).alloc (.cells #[.int .i64 0, .int .i64 0, .int .i64 0, .int .i64 0, .int .i64 0, .int .i64 0, .int .i64 0] 113) = w1 at *
  generalize w.heap.size + 1 + 1 = B3 at *
  generalize w.heap.size + 1 = B2 at *
  (have x0 := h1.cell 0); (have x1 := h1.cell 1); (have x2 := h1.cell 2); (have x3 := h1.cell 3); (have x4 := h1.cell 4); (have x5 := h1.cell 5); (have x6 := h1.cell 6); (have y0 := h2.cell 0); (have y1 := h2.cell 1); (have y2 := h2.cell 2); (have y3 := h2.cell 3); (have y4 := h2.cell 4); (have y5 := h2.cell 5); (have y6 := h2.cell 6); (have z0 := h3.cell 0); (have z1 := h3.cell 1); (have z2 := h3.cell 2); (have z3 := h3.cell 3); (have z4 := h3.cell 4); (have z5 := h3.cell 5); (have z6 := h3.cell 6); (have xi := h1.inw); (have yf := h2.frozen); (have yi := h2.inw); (have zf := h3.frozen); (have zi := h3.inw)
  go_wp2_with (go_at_call 243; (with_reducible refine (l_CopyPol _ _ _ _ _ _).mono ?_); rintro e w2 ⟨rfl, hx⟩; have h1 := h1.up hx; have h2 := h2.up hx; have h3 := h3.up hx; have hup := hup.trans hx; (have x0 := h1.cell 0); (have x1 := h1.cell 1); (have x2 := h1.cell 2); (have x3 := h1.cell 3); (have x4 := h1.cell 4); (have x5 := h1.cell 5); (have x6 := h1.cell 6); (have y0 := h2.cell 0); (have y1 := h2.cell 1); (have y2 := h2.cell 2); (have y3 := h2.cell 3); (have y4 := h2.cell 4); (have y5 := h2.cell 5); (have y6 := h2.cell 6); (have z0 := h3.cell 0); (have z1 := h3.cell 1); (have z2 := h3.cell 2); (have z3 := h3.cell 3); (have z4 := h3.cell 4); (have z5 := h3.cell 5); (have z6 := h3.cell 6); (have xi := h1.inw); (have yf := h2.frozen); (have yi := h2.inw); (have zf := h3.frozen); (have zi := h3.inw))
  refine bodyPost_ret (v := .agg #[.int .i64 a0, .int .i64 a1, .int .i64 a2, .int .i64 a3, .int .i64 a4, .int .i64 a5, .int .i64 a6]) (by simp [results, Try.results144, go_sem, y0, y1, y2, y3, y4, y5, y6, yf, yi, z0, z1, z2, z3, z4, z5, z6, zf, zi, m1, m2, m3, m4]) rfl ⟨rfl, (by repeat' (first | (with_reducible exact Up.refl _) | (with_reducible assumption) | (with_reducible refine Up.alloc ?_ _) | (with_reducible refine Up.drew ?_) | (with_reducible refine Up.grow ?_ _) | (with_reducible refine Up.setCell ?_ (by (try simp); (try omega)) _)))⟩
theorem l_EqPol (a0 a1 a2 a3 a4 : Int) (w : World) : Calls Try.prog 246 #[.agg #[.int .i64 (a0), .int .i64 (a1), .int .i64 (a2), .int .i64 (a3), .int .i64 (a4)], .agg #[.int .i64 (a0), .int .i64 (a1), .int .i64 (a2), .int .i64 (a3), .int .i64 (a4)]] w (Ret w (.bool true)) := by
  go_enter Try.func246, Try.ntmps246
  go_wp2
  go_ret
  exact ⟨rfl, (by repeat' (first | (with_reducible exact Up.refl _) | (with_reducible assumption) | (with_reducible refine Up.alloc ?_ _) | (with_reducible refine Up.drew ?_) | (with_reducible refine Up.grow ?_ _) | (with_reducible refine Up.setCell ?_ (by (try simp); (try omega)) _)))⟩
theorem l_EqHol (a0 a1 a2 a3 a4 a5 a6 : Int) (w : World) : Calls Try.prog 149 #[.agg #[.int .i64 a0, .int .i64 a1, .int .i64 a2, .int .i64 a3, .int .i64 a4, .int .i64 a5, .int .i64 a6], .agg #[.int .i64 a0, .int .i64 a1, .int .i64 a2, .int .i64 a3, .int .i64 a4, .int .i64 a5, .int .i64 a6]] w (Ret w (.bool true)) := by
  go_enter Try.func149, Try.ntmps149
  go_wp2_with (first | (go_at_call 246; (with_reducible refine (l_EqPol _ _ _ _ _ _).mono ?_); rintro e w' ⟨rfl, hb⟩; first | (obtain ⟨x, rfl⟩ := Grow.on x hb) | (obtain ⟨x, rfl⟩ := Grow.mk' hb)) | (go_at_call 142; (with_reducible refine (s_In _ _ _ _).mono ?_); rintro e w' ⟨rfl, rfl⟩) | (go_at_call 186; (with_reducible refine (i_In _ _ _ _).mono ?_); rintro e w' ⟨rfl, rfl⟩) | (go_at_call 222; (with_reducible refine (s_Rate _ _).mono ?_); rintro e w' ⟨rfl, rfl⟩) | (go_at_call 165; (with_reducible refine (i_Rate _ _).mono ?_); rintro e w' ⟨rfl, rfl⟩) | (go_at_call 262; (with_reducible refine (i_Years _ _).mono ?_); rintro e w' ⟨rfl, rfl⟩) | (go_at_call 227; (with_reducible refine (s_Amount6 _ _).mono ?_); rintro e w' ⟨rfl, rfl⟩) | (go_at_call 236; (with_reducible refine (s_Sum7 _ _).mono ?_); rintro e w' ⟨rfl, rfl⟩) | ((first | with_reducible refine wp_region_in x (by kernel_rfl) (by kernel_rfl) ?_ | with_reducible refine wp_region_here (by kernel_rfl) (by kernel_rfl) ?_); (repeat (go_big_quiet_step ((first | (go_at_call 246; with_reducible exact Ret.grow _ (l_EqPol _ _ _ _ _ _)) | (go_at_call 142; with_reducible exact Ret.same _ (s_In _ _ _ _)) | (go_at_call 186; with_reducible exact Ret.same _ (i_In _ _ _ _)) | (go_at_call 222; with_reducible exact Ret.same _ (s_Rate _ _)) | (go_at_call 165; with_reducible exact Ret.same _ (i_Rate _ _)) | (go_at_call 262; with_reducible exact Ret.same _ (i_Years _ _)) | (go_at_call 227; with_reducible exact Ret.same _ (s_Amount6 _ _)) | (go_at_call 236; with_reducible exact Ret.same _ (s_Sum7 _ _)))))); refine wpQuiet_nil ?_; intro w' hw'; obtain ⟨x, rfl⟩ := hw'))
  go_ret
  exact ⟨rfl, (by repeat' (first | (with_reducible exact Up.refl _) | (with_reducible assumption) | (with_reducible refine Up.alloc ?_ _) | (with_reducible refine Up.drew ?_) | (with_reducible refine Up.grow ?_ _) | (with_reducible refine Up.setCell ?_ (by (try simp); (try omega)) _)))⟩
theorem l_EqH (v1 v2 : Value) (n : Nat) (g : Nat → Nat → Int) (hn : n ≤ 1048576) (w : World) (h1 : HAt w v1 n g) (h2 : HAt w v2 n g) :
    Calls Try.prog 25 #[v1, v2] w (Ret w (.bool true)) := by
  obtain ⟨A1, c1, rfl, _, _, hI1⟩ := h1
  obtain ⟨A2, c2, rfl, _, _, hI2⟩ := h2
  go_enter Try.func25, Try.ntmps25
  go_wp2
  go_loopw [5] (fun i wr => ∃ (k : Nat) (y : Grow w), k ≤ n ∧ i = .int .i64 k ∧ wr = y.to) (fun i _ => n - (intOf i).toNat)
  case atStart => exact ⟨0, ⟨w, Below.refl _ _⟩, Nat.zero_le _, rfl, rfl⟩
  case round =>
    obtain ⟨k, x, hk, rfl, rfl⟩ := hrel
    by_cases hlt : k < n
    · obtain ⟨b, off, rfl, hlb, e0, e1, e2, e3, e4, e5, e6⟩ := hI1.seven hlt
      obtain ⟨b', off', rfl, hlb', f0, f1, f2, f3, f4, f5, f6⟩ := hI2.seven hlt
      have c0 : ∀ y : Grow w, y.to.cell? ⟨b, off + k * 7, none⟩ = some (.int .i64 (g k 0)) := fun y => (y.below.cell (p := ⟨b, off + k * 7, none⟩) hlb).trans e0
      have c1 : ∀ y : Grow w, y.to.cell? ⟨b, off + k * 7 + 1, none⟩ = some (.int .i64 (g k 1)) := fun y => (y.below.cell (p := ⟨b, off + k * 7 + 1, none⟩) hlb).trans e1
      have c2 : ∀ y : Grow w, y.to.cell? ⟨b, off + k * 7 + 2, none⟩ = some (.int .i64 (g k 2)) := fun y => (y.below.cell (p := ⟨b, off + k * 7 + 2, none⟩) hlb).trans e2
      have c3 : ∀ y : Grow w, y.to.cell? ⟨b, off + k * 7 + 3, none⟩ = some (.int .i64 (g k 3)) := fun y => (y.below.cell (p := ⟨b, off + k * 7 + 3, none⟩) hlb).trans e3
      have c4 : ∀ y : Grow w, y.to.cell? ⟨b, off + k * 7 + 4, none⟩ = some (.int .i64 (g k 4)) := fun y => (y.below.cell (p := ⟨b, off + k * 7 + 4, none⟩) hlb).trans e4
      have c5 : ∀ y : Grow w, y.to.cell? ⟨b, off + k * 7 + 5, none⟩ = some (.int .i64 (g k 5)) := fun y => (y.below.cell (p := ⟨b, off + k * 7 + 5, none⟩) hlb).trans e5
      have c6 : ∀ y : Grow w, y.to.cell? ⟨b, off + k * 7 + 6, none⟩ = some (.int .i64 (g k 6)) := fun y => (y.below.cell (p := ⟨b, off + k * 7 + 6, none⟩) hlb).trans e6
      have d0 : ∀ y : Grow w, y.to.cell? ⟨b', off' + k * 7, none⟩ = some (.int .i64 (g k 0)) := fun y => (y.below.cell (p := ⟨b', off' + k * 7, none⟩) hlb').trans f0
      have d1 : ∀ y : Grow w, y.to.cell? ⟨b', off' + k * 7 + 1, none⟩ = some (.int .i64 (g k 1)) := fun y => (y.below.cell (p := ⟨b', off' + k * 7 + 1, none⟩) hlb').trans f1
      have d2 : ∀ y : Grow w, y.to.cell? ⟨b', off' + k * 7 + 2, none⟩ = some (.int .i64 (g k 2)) := fun y => (y.below.cell (p := ⟨b', off' + k * 7 + 2, none⟩) hlb').trans f2
      have d3 : ∀ y : Grow w, y.to.cell? ⟨b', off' + k * 7 + 3, none⟩ = some (.int .i64 (g k 3)) := fun y => (y.below.cell (p := ⟨b', off' + k * 7 + 3, none⟩) hlb').trans f3
      have d4 : ∀ y : Grow w, y.to.cell? ⟨b', off' + k * 7 + 4, none⟩ = some (.int .i64 (g k 4)) := fun y => (y.below.cell (p := ⟨b', off' + k * 7 + 4, none⟩) hlb').trans f4
      have d5 : ∀ y : Grow w, y.to.cell? ⟨b', off' + k * 7 + 5, none⟩ = some (.int .i64 (g k 5)) := fun y => (y.below.cell (p := ⟨b', off' + k * 7 + 5, none⟩) hlb').trans f5
      have d6 : ∀ y : Grow w, y.to.cell? ⟨b', off' + k * 7 + 6, none⟩ = some (.int .i64 (g k 6)) := fun y => (y.below.cell (p := ⟨b', off' + k * 7 + 6, none⟩) hlb').trans f6
      clear e0 e1 e2 e3 e4 e5 e6 f0 f1 f2 f3 f4 f5 f6
      go_wp2_with (first | (go_at_call 149; (with_reducible refine (l_EqHol _ _ _ _ _ _ _ _).mono ?_); rintro e w' ⟨rfl, hb⟩; first | (obtain ⟨x, rfl⟩ := Grow.on x hb) | (obtain ⟨x, rfl⟩ := Grow.mk' hb)) | (go_at_call 142; (with_reducible refine (s_In _ _ _ _).mono ?_); rintro e w' ⟨rfl, rfl⟩) | (go_at_call 186; (with_reducible refine (i_In _ _ _ _).mono ?_); rintro e w' ⟨rfl, rfl⟩) | (go_at_call 222; (with_reducible refine (s_Rate _ _).mono ?_); rintro e w' ⟨rfl, rfl⟩) | (go_at_call 165; (with_reducible refine (i_Rate _ _).mono ?_); rintro e w' ⟨rfl, rfl⟩) | (go_at_call 262; (with_reducible refine (i_Years _ _).mono ?_); rintro e w' ⟨rfl, rfl⟩) | (go_at_call 227; (with_reducible refine (s_Amount6 _ _).mono ?_); rintro e w' ⟨rfl, rfl⟩) | (go_at_call 236; (with_reducible refine (s_Sum7 _ _).mono ?_); rintro e w' ⟨rfl, rfl⟩) | ((first | with_reducible refine wp_region_in x (by kernel_rfl) (by kernel_rfl) ?_ | with_reducible refine wp_region_here (by kernel_rfl) (by kernel_rfl) ?_); (repeat (go_big_quiet_step ((first | (go_at_call 149; with_reducible exact Ret.grow _ (l_EqHol _ _ _ _ _ _ _ _)) | (go_at_call 142; with_reducible exact Ret.same _ (s_In _ _ _ _)) | (go_at_call 186; with_reducible exact Ret.same _ (i_In _ _ _ _)) | (go_at_call 222; with_reducible exact Ret.same _ (s_Rate _ _)) | (go_at_call 165; with_reducible exact Ret.same _ (i_Rate _ _)) | (go_at_call 262; with_reducible exact Ret.same _ (i_Years _ _)) | (go_at_call 227; with_reducible exact Ret.same _ (s_Amount6 _ _)) | (go_at_call 236; with_reducible exact Ret.same _ (s_Sum7 _ _)))))); refine wpQuiet_nil ?_; intro w' hw'; obtain ⟨x, rfl⟩ := hw'))
      go_roundw
      case rel => exact ⟨k + 1, x, by omega, by go_num, rfl⟩
      case measure => simp [intOf]; omega
    · go_wp2
      go_ret
      exact ⟨rfl, (by repeat' (first | (with_reducible exact Up.refl _) | (with_reducible assumption) | (with_reducible refine Up.alloc ?_ _) | (with_reducible refine Up.drew ?_) | (with_reducible refine Up.grow ?_ _) | (with_reducible refine Up.setCell ?_ (by (try simp); (try omega)) _)))⟩
end Go.Proofs.Ytdeoampkbbbleaa
