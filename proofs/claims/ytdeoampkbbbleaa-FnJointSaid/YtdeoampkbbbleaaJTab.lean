/- Contracts of JointTable, both sides, and of likeTables9. Condition: the slices read as the tables' numbers. -/
import Derived.Test.YtdeoampkbbbleaaTwo
import Derived.Test.YtdeoampkbbbleaaLike
import Derived.Test.YtdeoampkbbbleaaSW
import Derived.Test.YtdeoampkbbbleaaIW
import Derived.Test.YtdeoampkbbbleaaDrawS
namespace Go.Proofs.Ytdeoampkbbbleaa
open Go.RowKit Pu
set_option linter.unusedVariables false
set_option linter.unusedSimpArgs false

/-- The joint table, or none. -/
noncomputable def jtT (T : Tab) (x : Int) (U : Tab) (y : Int) : Tab := if code8 T x U y true = 0 then T.joint U x (ix T x) (ix U y) else ⟨0, 0, fun _ => 0⟩
/-- A table and a code are returned. -/
def RetTC (w : World) (T : Tab) (K : Int) (e : Ending) (w' : World) : Prop := ∃ A c, e = .returned (.tuple #[.agg #[.int .i64 T.first, .slice A T.n c], .int .i64 K]) ∧ Up w w' ∧ TabOwn w w' T (.agg #[.int .i64 T.first, .slice A T.n c])
set_option maxRecDepth 100000 in
set_option maxHeartbeats 2000000 in
theorem s_JointTable (T : Tab) (x : Int) (U : Tab) (y : Int) (v u : Value) (w : World) (hv : TabAt w T v) (hu : TabAt w U u) :
    Calls Try.prog 67 #[v, .int .i64 x, u, .int .i64 y] w (RetTC w (jtT T x U y) (code8 T x U y true)) := by
  have hv' := hv
  have hu' := hu
  obtain ⟨A, c, rfl, hc, hm, _, hI⟩ := hv
  obtain ⟨A2, c2, rfl, hc2, hm2, _, hI2⟩ := hu
  have HC := s_Code8 T x U y true
  try simp only [show inR 0 0 150 = true from rfl] at HC
  replace HC := Lib.hid HC
  have HJ : Hid (code8 T x U y true = 0 → ∀ v u w, TabAt w T v → TabAt w U u → Calls Try.prog 192 #[v, .int .i64 x, u, .int .i64 y] w (RetT w (jtT T x U y))) := Lib.hid fun hz => by
    obtain ⟨hT, hU, _, i, j, rfl, rfl, hx, hy, hi, hj⟩ := code8_ok hz
    have e : jtT T (T.first + i) U (U.first + j) = T.joint U (T.first + i) i j := by unfold jtT; rw [if_pos hz, ix_k, ix_k]
    rw [e]
    exact s_Joint hT hU hi hj hy
  have HB : Hid (¬ code8 T x U y true = 0 → jtT T x U y = ⟨0, 0, fun _ => 0⟩) := Lib.hid fun hz => by unfold jtT; rw [if_neg hz]
  generalize jtT T x U y = J at *
  generalize code8 T x U y true = K at *
  go_enter Try.func67, Try.ntmps67
  go_upto_region 1 with (fail)
  have h1 : Blk (((w.alloc (.cells #[.int .i64 T.first, .slice A T.n c] 31)).alloc (.cells #[.int .i64 U.first, .slice A2 U.n c2] 31)).alloc (.cells #[.int .i64 0, .slice none 0 0] 31)) w.heap.size 31 #[.int .i64 T.first, .slice A T.n c] := ((Blk.new _ _ _).alloc _).alloc _
  have h2 : Blk (((w.alloc (.cells #[.int .i64 T.first, .slice A T.n c] 31)).alloc (.cells #[.int .i64 U.first, .slice A2 U.n c2] 31)).alloc (.cells #[.int .i64 0, .slice none 0 0] 31)) (w.heap.size + 1) 31 #[.int .i64 U.first, .slice A2 U.n c2] := by
    have h := (Blk.new (w.alloc (.cells #[.int .i64 T.first, .slice A T.n c] 31)) 31 #[.int .i64 U.first, .slice A2 U.n c2]).alloc (.cells #[.int .i64 0, .slice none 0 0] 31)
    simpa only [World.size_alloc] using h
  have h3 : Blk (((w.alloc (.cells #[.int .i64 T.first, .slice A T.n c] 31)).alloc (.cells #[.int .i64 U.first, .slice A2 U.n c2] 31)).alloc (.cells #[.int .i64 0, .slice none 0 0] 31)) (w.heap.size + 1 + 1) 31 #[.int .i64 0, .slice none 0 0] := by
    have h := Blk.new ((w.alloc (.cells #[.int .i64 T.first, .slice A T.n c] 31)).alloc (.cells #[.int .i64 U.first, .slice A2 U.n c2] 31)) 31 #[.int .i64 0, .slice none 0 0]
    simpa only [World.size_alloc] using h
  have hup : Up w (((w.alloc (.cells #[.int .i64 T.first, .slice A T.n c] 31)).alloc (.cells #[.int .i64 U.first, .slice A2 U.n c2] 31)).alloc (.cells #[.int .i64 0, .slice none 0 0] 31)) := (by repeat' (first | (with_reducible exact Up.refl _) | (with_reducible assumption) | (with_reducible refine Up.alloc ?_ _) | (with_reducible refine Up.drew ?_) | (with_reducible refine Up.grow ?_ _) | (with_reducible refine Up.setCell ?_ (by (try simp); (try omega)) _)))
  have hB3 : w.heap.size ≤ w.heap.size + 1 + 1 := by omega
  generalize ((w.alloc (.cells #[.int .i64 T.first, .slice A T.n c] 31)).alloc (.cells #[.int .i64 U.first, .slice A2 U.n c2] 31)).alloc (.cells #[.int .i64 0, .slice none 0 0] 31) = w1 at *
  generalize w.heap.size + 1 + 1 = B3 at *
  generalize w.heap.size + 1 = B2 at *
  have hv := hv'.up hup
  have hu := hu'.up hup
  have c10 := h1.cell 0; have c11 := h1.cell 1; have i1 := h1.inw; have c20 := h2.cell 0; have c21 := h2.cell 1; have i2 := h2.inw; have c30 := h3.cell 0; have c31 := h3.cell 1; have f3 := h3.frozen; have i3 := h3.inw
  by_cases hz : K = 0
  case neg =>
    have hJ := HB.out hz
    (have hz1 : ((K) != 0) = true := (by simpa using hz)); (have hz2 : ((K) == 0) = false := (by simpa using hz))
    subst hJ
    go_wp2_with (go_at_call 191; (with_reducible refine (HC.out _ _ _ hv hu).mono ?_); rintro e w2 ⟨rfl, hx⟩; have h1 := h1.up hx; have h2 := h2.up hx; have h3 := h3.up hx; have hup := hup.trans hx; have c10 := h1.cell 0; have c11 := h1.cell 1; have i1 := h1.inw; have c20 := h2.cell 0; have c21 := h2.cell 1; have i2 := h2.inw; have c30 := h3.cell 0; have c31 := h3.cell 1; have f3 := h3.frozen; have i3 := h3.inw)
    refine bodyPost_ret (v := .tuple #[.agg #[.int .i64 0, .slice none 0 0], .int .i64 K]) (by simp [results, Try.results67, go_sem, c30, c31, f3, i3]) rfl ?_
    refine ⟨none, 0, rfl, (hup.setCell (p := ⟨B3, 0, none⟩) hB3 _).setCell (p := ⟨B3, 1, none⟩) hB3 _, by show (0:Nat) ≤ 1048576; omega, none, 0, rfl, Own.nil _ _⟩
  subst hz
  replace HJ := Lib.hid (HJ.out rfl)
  go_wp2_with (first
    | (go_at_call 191; (with_reducible refine (HC.out _ _ _ hv hu).mono ?_); rintro e w2 ⟨rfl, hx⟩; have h1 := h1.up hx; have h2 := h2.up hx; have h3 := h3.up hx; have hup := hup.trans hx; have hv := hv.up hx; have hu := hu.up hx; have c10 := h1.cell 0; have c11 := h1.cell 1; have i1 := h1.inw; have c20 := h2.cell 0; have c21 := h2.cell 1; have i2 := h2.inw; have c30 := h3.cell 0; have c31 := h3.cell 1; have f3 := h3.frozen; have i3 := h3.inw)
    | (go_at_call 192; (with_reducible refine (HJ.out _ _ _ hv hu).mono ?_); rintro e w3 ⟨vj, rfl, hx, hO⟩; obtain ⟨_, A3, c3, rfl, _⟩ := id hO; have i4 : B3 < w2.heap.size := i3; have h1 := h1.up hx; have h2 := h2.up hx; have h3 := h3.up hx; have hup2 := hup; have hup := hup.trans hx; have c10 := h1.cell 0; have c11 := h1.cell 1; have i1 := h1.inw; have c20 := h2.cell 0; have c21 := h2.cell 1; have i2 := h2.inw; have c30 := h3.cell 0; have c31 := h3.cell 1; have f3 := h3.frozen; have i3 := h3.inw))
  refine bodyPost_ret (v := .tuple #[.agg #[.int .i64 J.first, .slice A3 J.n c3], .int .i64 0]) (by simp [results, Try.results67, go_sem, c30, c31, f3, i3]) rfl ?_
  exact ⟨A3, c3, rfl, (hup.setCell (p := ⟨B3, 0, none⟩) hB3 _).setCell (p := ⟨B3, 1, none⟩) hB3 _, ((hO.set_old (a := ⟨B3, 0, none⟩) i4 _).set_old (a := ⟨B3, 1, none⟩) i4 _).base hup2.size⟩
set_option maxRecDepth 100000 in
set_option maxHeartbeats 2000000 in
theorem i_JointTable (T : Tab) (x : Int) (U : Tab) (y : Int) (v u : Value) (w : World) (hv : TabAt w T v) (hu : TabAt w U u) :
    Calls Try.prog 66 #[v, .int .i64 x, u, .int .i64 y] w (RetTC w (jtT T x U y) (code8 T x U y true)) := by
  have hv' := hv
  have hu' := hu
  obtain ⟨A, c, rfl, hc, hm, _, hI⟩ := hv
  obtain ⟨A2, c2, rfl, hc2, hm2, _, hI2⟩ := hu
  have HC := i_ChkPair T x U y 0
  try simp only [show inR 0 0 150 = true from rfl] at HC
  replace HC := Lib.hid HC
  have HJ : Hid (code8 T x U y true = 0 → ∀ v u w, TabAt w T v → TabAt w U u → Calls Try.prog 190 #[v, .int .i64 x, u, .int .i64 y] w (RetT w (jtT T x U y))) := Lib.hid fun hz => by
    obtain ⟨hT, hU, _, i, j, rfl, rfl, hx, hy, hi, hj⟩ := code8_ok hz
    have e : jtT T (T.first + i) U (U.first + j) = T.joint U (T.first + i) i j := by unfold jtT; rw [if_pos hz, ix_k, ix_k]
    rw [e]
    exact i_Joint hT hU hi hj hy
  have HB : Hid (¬ code8 T x U y true = 0 → jtT T x U y = ⟨0, 0, fun _ => 0⟩) := Lib.hid fun hz => by unfold jtT; rw [if_neg hz]
  generalize jtT T x U y = J at *
  generalize code8 T x U y true = K at *
  go_enter Try.func66, Try.ntmps66
  go_upto_region 1 with (fail)
  have h1 : Blk (((w.alloc (.cells #[.int .i64 T.first, .slice A T.n c] 31)).alloc (.cells #[.int .i64 U.first, .slice A2 U.n c2] 31)).alloc (.cells #[.int .i64 0, .slice none 0 0] 31)) w.heap.size 31 #[.int .i64 T.first, .slice A T.n c] := ((Blk.new _ _ _).alloc _).alloc _
  have h2 : Blk (((w.alloc (.cells #[.int .i64 T.first, .slice A T.n c] 31)).alloc (.cells #[.int .i64 U.first, .slice A2 U.n c2] 31)).alloc (.cells #[.int .i64 0, .slice none 0 0] 31)) (w.heap.size + 1) 31 #[.int .i64 U.first, .slice A2 U.n c2] := by
    have h := (Blk.new (w.alloc (.cells #[.int .i64 T.first, .slice A T.n c] 31)) 31 #[.int .i64 U.first, .slice A2 U.n c2]).alloc (.cells #[.int .i64 0, .slice none 0 0] 31)
    simpa only [World.size_alloc] using h
  have h3 : Blk (((w.alloc (.cells #[.int .i64 T.first, .slice A T.n c] 31)).alloc (.cells #[.int .i64 U.first, .slice A2 U.n c2] 31)).alloc (.cells #[.int .i64 0, .slice none 0 0] 31)) (w.heap.size + 1 + 1) 31 #[.int .i64 0, .slice none 0 0] := by
    have h := Blk.new ((w.alloc (.cells #[.int .i64 T.first, .slice A T.n c] 31)).alloc (.cells #[.int .i64 U.first, .slice A2 U.n c2] 31)) 31 #[.int .i64 0, .slice none 0 0]
    simpa only [World.size_alloc] using h
  have hup : Up w (((w.alloc (.cells #[.int .i64 T.first, .slice A T.n c] 31)).alloc (.cells #[.int .i64 U.first, .slice A2 U.n c2] 31)).alloc (.cells #[.int .i64 0, .slice none 0 0] 31)) := (by repeat' (first | (with_reducible exact Up.refl _) | (with_reducible assumption) | (with_reducible refine Up.alloc ?_ _) | (with_reducible refine Up.drew ?_) | (with_reducible refine Up.grow ?_ _) | (with_reducible refine Up.setCell ?_ (by (try simp); (try omega)) _)))
  have hB3 : w.heap.size ≤ w.heap.size + 1 + 1 := by omega
  generalize ((w.alloc (.cells #[.int .i64 T.first, .slice A T.n c] 31)).alloc (.cells #[.int .i64 U.first, .slice A2 U.n c2] 31)).alloc (.cells #[.int .i64 0, .slice none 0 0] 31) = w1 at *
  generalize w.heap.size + 1 + 1 = B3 at *
  generalize w.heap.size + 1 = B2 at *
  have hv := hv'.up hup
  have hu := hu'.up hup
  have c10 := h1.cell 0; have c11 := h1.cell 1; have i1 := h1.inw; have c20 := h2.cell 0; have c21 := h2.cell 1; have i2 := h2.inw; have c30 := h3.cell 0; have c31 := h3.cell 1; have f3 := h3.frozen; have i3 := h3.inw
  by_cases hz : K = 0
  case neg =>
    have hJ := HB.out hz
    (have hz1 : ((K) != 0) = true := (by simpa using hz)); (have hz2 : ((K) == 0) = false := (by simpa using hz))
    subst hJ
    go_wp2_with (go_at_call 189; (with_reducible refine (HC.out _ _ _ hv hu).mono ?_); rintro e w2 ⟨rfl, hx⟩; have h1 := h1.up hx; have h2 := h2.up hx; have h3 := h3.up hx; have hup := hup.trans hx; have c10 := h1.cell 0; have c11 := h1.cell 1; have i1 := h1.inw; have c20 := h2.cell 0; have c21 := h2.cell 1; have i2 := h2.inw; have c30 := h3.cell 0; have c31 := h3.cell 1; have f3 := h3.frozen; have i3 := h3.inw)
    refine bodyPost_ret (v := .tuple #[.agg #[.int .i64 0, .slice none 0 0], .int .i64 K]) (by simp [results, Try.results66, go_sem, c30, c31, f3, i3]) rfl ?_
    refine ⟨none, 0, rfl, (hup.setCell (p := ⟨B3, 0, none⟩) hB3 _).setCell (p := ⟨B3, 1, none⟩) hB3 _, by show (0:Nat) ≤ 1048576; omega, none, 0, rfl, Own.nil _ _⟩
  subst hz
  replace HJ := Lib.hid (HJ.out rfl)
  go_wp2_with (first
    | (go_at_call 189; (with_reducible refine (HC.out _ _ _ hv hu).mono ?_); rintro e w2 ⟨rfl, hx⟩; have h1 := h1.up hx; have h2 := h2.up hx; have h3 := h3.up hx; have hup := hup.trans hx; have hv := hv.up hx; have hu := hu.up hx; have c10 := h1.cell 0; have c11 := h1.cell 1; have i1 := h1.inw; have c20 := h2.cell 0; have c21 := h2.cell 1; have i2 := h2.inw; have c30 := h3.cell 0; have c31 := h3.cell 1; have f3 := h3.frozen; have i3 := h3.inw)
    | (go_at_call 190; (with_reducible refine (HJ.out _ _ _ hv hu).mono ?_); rintro e w3 ⟨vj, rfl, hx, hO⟩; obtain ⟨_, A3, c3, rfl, _⟩ := id hO; have i4 : B3 < w2.heap.size := i3; have h1 := h1.up hx; have h2 := h2.up hx; have h3 := h3.up hx; have hup2 := hup; have hup := hup.trans hx; have c10 := h1.cell 0; have c11 := h1.cell 1; have i1 := h1.inw; have c20 := h2.cell 0; have c21 := h2.cell 1; have i2 := h2.inw; have c30 := h3.cell 0; have c31 := h3.cell 1; have f3 := h3.frozen; have i3 := h3.inw))
  refine bodyPost_ret (v := .tuple #[.agg #[.int .i64 J.first, .slice A3 J.n c3], .int .i64 0]) (by simp [results, Try.results66, go_sem, c30, c31, f3, i3]) rfl ?_
  exact ⟨A3, c3, rfl, (hup.setCell (p := ⟨B3, 0, none⟩) hB3 _).setCell (p := ⟨B3, 1, none⟩) hB3 _, ((hO.set_old (a := ⟨B3, 0, none⟩) i4 _).set_old (a := ⟨B3, 1, none⟩) i4 _).base hup2.size⟩
/-- Two tables that read alike are alike. -/
theorem l_LikeT (T : Tab) (v1 v2 : Value) (w : World) (h1 : TabAt w T v1) (h2 : TabAt w T v2) : Calls Try.prog 73 #[v1, v2] w (Ret w (.bool true)) := by
  obtain ⟨A, c, rfl, hc, hm, hb, hI⟩ := h1
  obtain ⟨A2, c2, rfl, hc2, hm2, _, hI2⟩ := h2
  go_enter Try.func73, Try.ntmps73
  go_wp2_with (first | (go_at_call 50; (with_reducible refine (l_Like A A2 T.n c c2 T.f hb _ (hI.up (by repeat' (first | (with_reducible exact Up.refl _) | (with_reducible assumption) | (with_reducible refine Up.alloc ?_ _) | (with_reducible refine Up.drew ?_) | (with_reducible refine Up.grow ?_ _) | (with_reducible refine Up.setCell ?_ (by (try simp); (try omega)) _)))) (hI2.up (by repeat' (first | (with_reducible exact Up.refl _) | (with_reducible assumption) | (with_reducible refine Up.alloc ?_ _) | (with_reducible refine Up.drew ?_) | (with_reducible refine Up.grow ?_ _) | (with_reducible refine Up.setCell ?_ (by (try simp); (try omega)) _))))).mono ?_); rintro e w' ⟨rfl, hb⟩; first | (obtain ⟨x, rfl⟩ := Grow.on x hb) | (obtain ⟨x, rfl⟩ := Grow.mk' hb)) | (go_at_call 142; (with_reducible refine (s_In _ _ _ _).mono ?_); rintro e w' ⟨rfl, rfl⟩) | (go_at_call 186; (with_reducible refine (i_In _ _ _ _).mono ?_); rintro e w' ⟨rfl, rfl⟩) | (go_at_call 222; (with_reducible refine (s_Rate _ _).mono ?_); rintro e w' ⟨rfl, rfl⟩) | (go_at_call 165; (with_reducible refine (i_Rate _ _).mono ?_); rintro e w' ⟨rfl, rfl⟩) | (go_at_call 262; (with_reducible refine (i_Years _ _).mono ?_); rintro e w' ⟨rfl, rfl⟩) | (go_at_call 227; (with_reducible refine (s_Amount6 _ _).mono ?_); rintro e w' ⟨rfl, rfl⟩) | (go_at_call 236; (with_reducible refine (s_Sum7 _ _).mono ?_); rintro e w' ⟨rfl, rfl⟩) | ((first | with_reducible refine wp_region_in x (by kernel_rfl) (by kernel_rfl) ?_ | with_reducible refine wp_region_here (by kernel_rfl) (by kernel_rfl) ?_); (repeat (go_big_quiet_step ((first | (go_at_call 50; with_reducible exact Ret.grow _ (l_Like A A2 T.n c c2 T.f hb _ (hI.up (by repeat' (first | (with_reducible exact Up.refl _) | (with_reducible assumption) | (with_reducible refine Up.alloc ?_ _) | (with_reducible refine Up.drew ?_) | (with_reducible refine Up.grow ?_ _) | (with_reducible refine Up.setCell ?_ (by (try simp); (try omega)) _)))) (hI2.up (by repeat' (first | (with_reducible exact Up.refl _) | (with_reducible assumption) | (with_reducible refine Up.alloc ?_ _) | (with_reducible refine Up.drew ?_) | (with_reducible refine Up.grow ?_ _) | (with_reducible refine Up.setCell ?_ (by (try simp); (try omega)) _)))))) | (go_at_call 142; with_reducible exact Ret.same _ (s_In _ _ _ _)) | (go_at_call 186; with_reducible exact Ret.same _ (i_In _ _ _ _)) | (go_at_call 222; with_reducible exact Ret.same _ (s_Rate _ _)) | (go_at_call 165; with_reducible exact Ret.same _ (i_Rate _ _)) | (go_at_call 262; with_reducible exact Ret.same _ (i_Years _ _)) | (go_at_call 227; with_reducible exact Ret.same _ (s_Amount6 _ _)) | (go_at_call 236; with_reducible exact Ret.same _ (s_Sum7 _ _)))))); refine wpQuiet_nil ?_; intro w' hw'; obtain ⟨x, rfl⟩ := hw'))
  go_ret
  exact ⟨rfl, (by repeat' (first | (with_reducible exact Up.refl _) | (with_reducible assumption) | (with_reducible refine Up.alloc ?_ _) | (with_reducible refine Up.drew ?_) | (with_reducible refine Up.grow ?_ _) | (with_reducible refine Up.setCell ?_ (by (try simp); (try omega)) _)))⟩
end Go.Proofs.Ytdeoampkbbbleaa
