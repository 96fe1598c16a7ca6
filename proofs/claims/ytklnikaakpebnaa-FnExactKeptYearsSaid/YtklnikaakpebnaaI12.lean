/- Contracts of the program's answers on leaving. Condition: the slice reads as the table's numbers. -/
import Derived.Test.YtklnikaakpebnaaI11b
import Derived.Test.YtklnikaakpebnaaS12
namespace Go.Proofs.Ytklnikaakpebnaa
open Go.RowKit Pu

set_option maxRecDepth 100000 in
set_option maxHeartbeats 2000000 in
set_option linter.unusedSimpArgs false in
theorem i_ChkLB {T : Tab} {r kind age n m ld j K : Int} (hK : lvC T r kind age n m ld j = K) (hz : ¬ K = 0) (v : Value) (w : World) (hv : BasAt w T r v) :
    Calls Try.prog 215 #[v, .agg #[.int .i64 (kind), .int .i64 (age), .int .i64 (n), .int .i64 (m), .int .i64 (ld)], .int .i64 j] w (Ret w (.tuple #[.agg #[.int .i64 0, .int .i64 0, .int .i64 0, .int .i64 0, .int .i64 0], .int .i64 K])) := by
  (have hv' := hv; obtain ⟨A, c, rfl, hc, hm, hbig, hI⟩ := hv; have ht : TabAt w T (.agg #[.int .i64 T.first, .slice A T.n c]) := ⟨A, c, rfl, hc, hm, hbig, hI⟩)
  unfold lvC at hK
  by_cases h0 : resC T r kind age n m ld j = 0
  · rw [if_pos h0] at hK
    have hj : j < 2 := by
      by_cases hj : j < 2
      · exact hj
      · rw [if_neg hj] at hK; exact absurd hK.symm hz
    rw [if_pos hj] at hK
    subst hK
    obtain ⟨k, n, j, rfl, rfl, rfl, hk, hju, hd⟩ := resC_ok h0
    have HC := Lib.hid (i_ChkRK h0)
    generalize T.top r kind (k + j) (n - j) = N at *
    generalize T.base r kind (k + j) (n - j) = B at *
    generalize T.D r (k + j) = D at *
    clear h0 hk hju hd hz
    have hR : Blk (((w.alloc (.cells #[.int .i64 T.first, .slice A T.n c, .int .i64 r] 42)).alloc (.cells #[.int .i64 (kind), .int .i64 (T.first + k), .int .i64 (n), .int .i64 (m), .int .i64 (ld)] 44)).alloc (.cells #[.int .i64 0, .int .i64 0, .int .i64 0, .int .i64 0, .int .i64 0] 136)) (w.heap.size + 1 + 1) 136 #[.int .i64 0, .int .i64 0, .int .i64 0, .int .i64 0, .int .i64 0] := (by simpa only [World.size_alloc] using Blk.new ((w.alloc (.cells #[.int .i64 T.first, .slice A T.n c, .int .i64 r] 42)).alloc (.cells #[.int .i64 (kind), .int .i64 (T.first + k), .int .i64 (n), .int .i64 (m), .int .i64 (ld)] 44)) 136 #[.int .i64 0, .int .i64 0, .int .i64 0, .int .i64 0, .int .i64 0])
    have r0 := hR.cell 0; have r1 := hR.cell 1; have r2 := hR.cell 2; have r3 := hR.cell 3; have r4 := hR.cell 4; have rf := hR.frozen; have ir := hR.inw
    go_enter Try.func215, Try.ntmps215
    go_wp2_with (first | (go_at_call 217; (with_reducible refine (HC.out _ _ (hv'.up (by repeat' (first | (with_reducible exact Up.refl _) | (with_reducible assumption) | (with_reducible refine Up.alloc ?_ _) | (with_reducible refine Up.drew ?_) | (with_reducible refine Up.grow ?_ _) | (with_reducible refine Up.setCell ?_ (by (try simp); (try omega)) _))))).mono ?_); rintro e w' ⟨rfl, hb⟩; first | (obtain ⟨x, rfl⟩ := Grow.on x hb) | (obtain ⟨x, rfl⟩ := Grow.mk' hb)) | (go_at_call 218; (with_reducible refine (s_In _ _ _ _).mono ?_); rintro e w' ⟨rfl, rfl⟩) | (go_at_call 227; (with_reducible refine (i_In _ _ _ _).mono ?_); rintro e w' ⟨rfl, rfl⟩) | (go_at_call 287; (with_reducible refine (s_Rate _ _).mono ?_); rintro e w' ⟨rfl, rfl⟩) | (go_at_call 248; (with_reducible refine (i_Rate _ _).mono ?_); rintro e w' ⟨rfl, rfl⟩) | (go_at_call 323; (with_reducible refine (i_Years _ _).mono ?_); rintro e w' ⟨rfl, rfl⟩) | (go_at_call 292; (with_reducible refine (s_Amount6 _ _).mono ?_); rintro e w' ⟨rfl, rfl⟩) | (go_at_call 226; (with_reducible refine (s_Sum7 _ _).mono ?_); rintro e w' ⟨rfl, rfl⟩) | ((first | with_reducible refine wp_region_in x (by kernel_rfl) (by kernel_rfl) ?_ | with_reducible refine wp_region_here (by kernel_rfl) (by kernel_rfl) ?_); (repeat (go_big_quiet_step ((first | (go_at_call 217; with_reducible exact Ret.grow _ (HC.out _ _ (hv'.up (by repeat' (first | (with_reducible exact Up.refl _) | (with_reducible assumption) | (with_reducible refine Up.alloc ?_ _) | (with_reducible refine Up.drew ?_) | (with_reducible refine Up.grow ?_ _) | (with_reducible refine Up.setCell ?_ (by (try simp); (try omega)) _)))))) | (go_at_call 218; with_reducible exact Ret.same _ (s_In _ _ _ _)) | (go_at_call 227; with_reducible exact Ret.same _ (i_In _ _ _ _)) | (go_at_call 287; with_reducible exact Ret.same _ (s_Rate _ _)) | (go_at_call 248; with_reducible exact Ret.same _ (i_Rate _ _)) | (go_at_call 323; with_reducible exact Ret.same _ (i_Years _ _)) | (go_at_call 292; with_reducible exact Ret.same _ (s_Amount6 _ _)) | (go_at_call 226; with_reducible exact Ret.same _ (s_Sum7 _ _)))))); refine wpQuiet_nil ?_; intro w' hw'; obtain ⟨x, rfl⟩ := hw'))
    have hR2 := hR.up (show Up _ (x.to.alloc (.cells #[.int .i64 N, .int .i64 B, .int .i64 D] 134)) from (by repeat' (first | (with_reducible exact Up.refl _) | (with_reducible assumption) | (with_reducible refine Up.alloc ?_ _) | (with_reducible refine Up.drew ?_) | (with_reducible refine Up.grow ?_ _) | (with_reducible refine Up.setCell ?_ (by (try simp); (try omega)) _))))
    have r0 := hR2.cell 0; have r1 := hR2.cell 1; have r2 := hR2.cell 2; have r3 := hR2.cell 3; have r4 := hR2.cell 4; have rf := hR2.frozen; have ir := hR2.inw
    refine bodyPost_ret (v := .tuple #[.agg #[.int .i64 0, .int .i64 0, .int .i64 0, .int .i64 0, .int .i64 0], .int .i64 4]) (by simp [results, Try.results215, go_sem, r0, r1, r2, r3, r4, rf, ir]) rfl ⟨rfl, (by repeat' (first | (with_reducible exact Up.refl _) | (with_reducible assumption) | (with_reducible refine Up.alloc ?_ _) | (with_reducible refine Up.drew ?_) | (with_reducible refine Up.grow ?_ _) | (with_reducible refine Up.setCell ?_ (by (try simp); (try omega)) _)))⟩
  · rw [if_neg h0] at hK
    have HC := Lib.hid (i_ChkRB (m := m) (ld := ld) (j := j) hK hz)
    (have hz1 : ((K) != 0) = true := (by simpa using hz)); (have hz2 : ((K) == 0) = false := (by simpa using hz))
    clear h0 hK hz
    have hR : Blk (((w.alloc (.cells #[.int .i64 T.first, .slice A T.n c, .int .i64 r] 42)).alloc (.cells #[.int .i64 (kind), .int .i64 (age), .int .i64 (n), .int .i64 (m), .int .i64 (ld)] 44)).alloc (.cells #[.int .i64 0, .int .i64 0, .int .i64 0, .int .i64 0, .int .i64 0] 136)) (w.heap.size + 1 + 1) 136 #[.int .i64 0, .int .i64 0, .int .i64 0, .int .i64 0, .int .i64 0] := (by simpa only [World.size_alloc] using Blk.new ((w.alloc (.cells #[.int .i64 T.first, .slice A T.n c, .int .i64 r] 42)).alloc (.cells #[.int .i64 (kind), .int .i64 (age), .int .i64 (n), .int .i64 (m), .int .i64 (ld)] 44)) 136 #[.int .i64 0, .int .i64 0, .int .i64 0, .int .i64 0, .int .i64 0])
    have r0 := hR.cell 0; have r1 := hR.cell 1; have r2 := hR.cell 2; have r3 := hR.cell 3; have r4 := hR.cell 4; have rf := hR.frozen; have ir := hR.inw
    go_enter Try.func215, Try.ntmps215
    go_wp2_with (first | (go_at_call 217; (with_reducible refine (HC.out _ _ (hv'.up (by repeat' (first | (with_reducible exact Up.refl _) | (with_reducible assumption) | (with_reducible refine Up.alloc ?_ _) | (with_reducible refine Up.drew ?_) | (with_reducible refine Up.grow ?_ _) | (with_reducible refine Up.setCell ?_ (by (try simp); (try omega)) _))))).mono ?_); rintro e w' ⟨rfl, hb⟩; first | (obtain ⟨x, rfl⟩ := Grow.on x hb) | (obtain ⟨x, rfl⟩ := Grow.mk' hb)) | (go_at_call 218; (with_reducible refine (s_In _ _ _ _).mono ?_); rintro e w' ⟨rfl, rfl⟩) | (go_at_call 227; (with_reducible refine (i_In _ _ _ _).mono ?_); rintro e w' ⟨rfl, rfl⟩) | (go_at_call 287; (with_reducible refine (s_Rate _ _).mono ?_); rintro e w' ⟨rfl, rfl⟩) | (go_at_call 248; (with_reducible refine (i_Rate _ _).mono ?_); rintro e w' ⟨rfl, rfl⟩) | (go_at_call 323; (with_reducible refine (i_Years _ _).mono ?_); rintro e w' ⟨rfl, rfl⟩) | (go_at_call 292; (with_reducible refine (s_Amount6 _ _).mono ?_); rintro e w' ⟨rfl, rfl⟩) | (go_at_call 226; (with_reducible refine (s_Sum7 _ _).mono ?_); rintro e w' ⟨rfl, rfl⟩) | ((first | with_reducible refine wp_region_in x (by kernel_rfl) (by kernel_rfl) ?_ | with_reducible refine wp_region_here (by kernel_rfl) (by kernel_rfl) ?_); (repeat (go_big_quiet_step ((first | (go_at_call 217; with_reducible exact Ret.grow _ (HC.out _ _ (hv'.up (by repeat' (first | (with_reducible exact Up.refl _) | (with_reducible assumption) | (with_reducible refine Up.alloc ?_ _) | (with_reducible refine Up.drew ?_) | (with_reducible refine Up.grow ?_ _) | (with_reducible refine Up.setCell ?_ (by (try simp); (try omega)) _)))))) | (go_at_call 218; with_reducible exact Ret.same _ (s_In _ _ _ _)) | (go_at_call 227; with_reducible exact Ret.same _ (i_In _ _ _ _)) | (go_at_call 287; with_reducible exact Ret.same _ (s_Rate _ _)) | (go_at_call 248; with_reducible exact Ret.same _ (i_Rate _ _)) | (go_at_call 323; with_reducible exact Ret.same _ (i_Years _ _)) | (go_at_call 292; with_reducible exact Ret.same _ (s_Amount6 _ _)) | (go_at_call 226; with_reducible exact Ret.same _ (s_Sum7 _ _)))))); refine wpQuiet_nil ?_; intro w' hw'; obtain ⟨x, rfl⟩ := hw'))
    have hR2 := hR.up (show Up _ (x.to.alloc (.cells #[.int .i64 0, .int .i64 0, .int .i64 0] 134)) from (by repeat' (first | (with_reducible exact Up.refl _) | (with_reducible assumption) | (with_reducible refine Up.alloc ?_ _) | (with_reducible refine Up.drew ?_) | (with_reducible refine Up.grow ?_ _) | (with_reducible refine Up.setCell ?_ (by (try simp); (try omega)) _))))
    have r0 := hR2.cell 0; have r1 := hR2.cell 1; have r2 := hR2.cell 2; have r3 := hR2.cell 3; have r4 := hR2.cell 4; have rf := hR2.frozen; have ir := hR2.inw
    refine bodyPost_ret (v := .tuple #[.agg #[.int .i64 0, .int .i64 0, .int .i64 0, .int .i64 0, .int .i64 0], .int .i64 K]) (by simp [results, Try.results215, go_sem, r0, r1, r2, r3, r4, ir]) rfl ⟨rfl, (by repeat' (first | (with_reducible exact Up.refl _) | (with_reducible assumption) | (with_reducible refine Up.alloc ?_ _) | (with_reducible refine Up.drew ?_) | (with_reducible refine Up.grow ?_ _) | (with_reducible refine Up.setCell ?_ (by (try simp); (try omega)) _)))⟩
set_option maxRecDepth 100000 in
set_option maxHeartbeats 4000000 in
set_option linter.unusedSimpArgs false in
theorem i_ChkLK {T : Tab} {r kind m ld : Int} {k n j : Nat} (h : PK T r kind k n m ld) (hj : j < T.dur kind k n) (hd : 1 ≤ T.D r (k + j)) (hj2 : 2 ≤ j) (v : Value) (w : World) (hv : BasAt w T r v) :
    Calls Try.prog 215 #[v, .agg #[.int .i64 (kind), .int .i64 (T.first + k), .int .i64 (n), .int .i64 (m), .int .i64 (ld)], .int .i64 j] w (Ret w (.tuple #[.agg #[.int .i64 (T.top r kind (k + j) (n - j)), .int .i64 (T.base r kind (k + j) (n - j)), .int .i64 (T.D r (k + j)), .int .i64 (T.res r kind k n m j), .int .i64 (T.sv r kind k n m j)], .int .i64 0])) := by
  (have hv' := hv; obtain ⟨A, c, rfl, hc, hm, hbig, hI⟩ := hv; have ht : TabAt w T (.agg #[.int .i64 T.first, .slice A T.n c]) := ⟨A, c, rfl, hc, hm, hbig, hI⟩)
  have h0 : resC T r kind (T.first + k) n m ld j = 0 := by rw [h.rc_in hj, if_neg (by omega)]
  have HC := Lib.hid (i_ChkRK h0)
  have HN := Lib.hid (i_Net h)
  have HR := i_Rnd h j hd
  unfold rpV at HR
  replace HR := Lib.hid HR
  have b := h.res_bd j hd
  have HM := Lib.hid (i_PerM (T.res r kind k n m j) 900 b.1 (by omega) (by omega) (by omega))
  unfold Tab.sv
  have hj3 : ¬ (j : Int) < 2 := by omega
  generalize T.res r kind k n m j * 900 / 1000 = X at *
  generalize T.res r kind k n m j = Y at *
  generalize T.net r kind k n m = E at *
  generalize T.top r kind (k + j) (n - j) = N at *
  generalize T.base r kind (k + j) (n - j) = B at *
  generalize T.D r (k + j) = D at *
  clear h0 h hj hd
  have hR : Blk (((w.alloc (.cells #[.int .i64 T.first, .slice A T.n c, .int .i64 r] 42)).alloc (.cells #[.int .i64 (kind), .int .i64 (T.first + k), .int .i64 (n), .int .i64 (m), .int .i64 (ld)] 44)).alloc (.cells #[.int .i64 0, .int .i64 0, .int .i64 0, .int .i64 0, .int .i64 0] 136)) (w.heap.size + 1 + 1) 136 #[.int .i64 0, .int .i64 0, .int .i64 0, .int .i64 0, .int .i64 0] := (by simpa only [World.size_alloc] using Blk.new ((w.alloc (.cells #[.int .i64 T.first, .slice A T.n c, .int .i64 r] 42)).alloc (.cells #[.int .i64 (kind), .int .i64 (T.first + k), .int .i64 (n), .int .i64 (m), .int .i64 (ld)] 44)) 136 #[.int .i64 0, .int .i64 0, .int .i64 0, .int .i64 0, .int .i64 0])
  have r0 := hR.cell 0; have r1 := hR.cell 1; have r2 := hR.cell 2; have r3 := hR.cell 3; have r4 := hR.cell 4; have rf := hR.frozen; have ir := hR.inw
  go_enter Try.func215, Try.ntmps215
  go_wp2_with (first | (go_at_call 217; ((with_reducible refine (HC.out _ _ (hv'.up (by repeat' (first | (with_reducible exact Up.refl _) | (with_reducible assumption) | (with_reducible refine Up.alloc ?_ _) | (with_reducible refine Up.drew ?_) | (with_reducible refine Up.grow ?_ _) | (with_reducible refine Up.setCell ?_ (by (try simp); (try omega)) _))))).mono ?_); rintro e w' ⟨rfl, hb⟩; obtain ⟨x1, rfl⟩ := Grow.mk' hb)) | (go_at_call 241; (with_reducible refine (HN.out _ _ (hv'.up (by repeat' (first | (with_reducible exact Up.refl _) | (with_reducible assumption) | (with_reducible refine Up.alloc ?_ _) | (with_reducible refine Up.drew ?_) | (with_reducible refine Up.grow ?_ _) | (with_reducible refine Up.setCell ?_ (by (try simp); (try omega)) _))))).mono ?_); rintro e w' ⟨rfl, hb⟩; first | (obtain ⟨x, rfl⟩ := Grow.on x hb) | (obtain ⟨x, rfl⟩ := Grow.mk' hb)) | (go_at_call 307; (with_reducible refine (HR.out _).mono ?_); rintro e w' ⟨rfl, hb⟩; first | (obtain ⟨x, rfl⟩ := Grow.on x hb) | (obtain ⟨x, rfl⟩ := Grow.mk' hb)) | (go_at_call 218; (with_reducible refine (s_In _ _ _ _).mono ?_); rintro e w' ⟨rfl, rfl⟩) | (go_at_call 227; (with_reducible refine (i_In _ _ _ _).mono ?_); rintro e w' ⟨rfl, rfl⟩) | (go_at_call 287; (with_reducible refine (s_Rate _ _).mono ?_); rintro e w' ⟨rfl, rfl⟩) | (go_at_call 248; (with_reducible refine (i_Rate _ _).mono ?_); rintro e w' ⟨rfl, rfl⟩) | (go_at_call 323; (with_reducible refine (i_Years _ _).mono ?_); rintro e w' ⟨rfl, rfl⟩) | (go_at_call 292; (with_reducible refine (s_Amount6 _ _).mono ?_); rintro e w' ⟨rfl, rfl⟩) | (go_at_call 226; (with_reducible refine (s_Sum7 _ _).mono ?_); rintro e w' ⟨rfl, rfl⟩) | ((first | with_reducible refine wp_region_in x (by kernel_rfl) (by kernel_rfl) ?_ | with_reducible refine wp_region_here (by kernel_rfl) (by kernel_rfl) ?_); (repeat (go_big_quiet_step ((first | (go_at_call 241; with_reducible exact Ret.grow _ (HN.out _ _ (hv'.up (by repeat' (first | (with_reducible exact Up.refl _) | (with_reducible assumption) | (with_reducible refine Up.alloc ?_ _) | (with_reducible refine Up.drew ?_) | (with_reducible refine Up.grow ?_ _) | (with_reducible refine Up.setCell ?_ (by (try simp); (try omega)) _)))))) | (go_at_call 307; with_reducible exact Ret.grow _ (HR.out _)) | (go_at_call 218; with_reducible exact Ret.same _ (s_In _ _ _ _)) | (go_at_call 227; with_reducible exact Ret.same _ (i_In _ _ _ _)) | (go_at_call 287; with_reducible exact Ret.same _ (s_Rate _ _)) | (go_at_call 248; with_reducible exact Ret.same _ (i_Rate _ _)) | (go_at_call 323; with_reducible exact Ret.same _ (i_Years _ _)) | (go_at_call 292; with_reducible exact Ret.same _ (s_Amount6 _ _)) | (go_at_call 226; with_reducible exact Ret.same _ (s_Sum7 _ _)))))); refine wpQuiet_nil ?_; intro w' hw'; obtain ⟨x, rfl⟩ := hw'))
  have hQ := (Blk.new x1.to 134 #[.int .i64 N, .int .i64 B, .int .i64 D]).up (show Up _ x.to from (by repeat' (first | (with_reducible exact Up.refl _) | (with_reducible assumption) | (with_reducible refine Up.alloc ?_ _) | (with_reducible refine Up.drew ?_) | (with_reducible refine Up.grow ?_ _) | (with_reducible refine Up.setCell ?_ (by (try simp); (try omega)) _))))
  have hR2 := hR.up (show Up _ x.to from (by repeat' (first | (with_reducible exact Up.refl _) | (with_reducible assumption) | (with_reducible refine Up.alloc ?_ _) | (with_reducible refine Up.drew ?_) | (with_reducible refine Up.grow ?_ _) | (with_reducible refine Up.setCell ?_ (by (try simp); (try omega)) _))))
  have hup : Up w x.to := (by repeat' (first | (with_reducible exact Up.refl _) | (with_reducible assumption) | (with_reducible refine Up.alloc ?_ _) | (with_reducible refine Up.drew ?_) | (with_reducible refine Up.grow ?_ _) | (with_reducible refine Up.setCell ?_ (by (try simp); (try omega)) _)))
  have sz := x1.size
  simp only [World.size_alloc] at sz
  have n1 : ¬ w.heap.size + 1 + 1 = x1.to.heap.size := by omega
  have n2 : ¬ x1.to.heap.size = w.heap.size + 1 + 1 := by omega
  have sz2 : w.heap.size ≤ w.heap.size + 1 + 1 := by omega
  clear r0 r1 r2 r3 r4 rf ir hR sz
  generalize x.to = wr at *
  generalize x1.to.heap.size = B3 at *
  generalize w.heap.size + 1 + 1 = B2 at *
  have q0 := hQ.cell 0; have q1 := hQ.cell 1; have q2 := hQ.cell 2; have iQ := hQ.inw
  have r0 := hR2.cell 0; have r1 := hR2.cell 1; have r2 := hR2.cell 2; have r3 := hR2.cell 3; have r4 := hR2.cell 4; have rf := hR2.frozen; have ir := hR2.inw
  go_region_held3 (fun w' => w'.cell? ⟨B3, 0, none⟩ = some (.int .i64 N) ∧ w'.cell? ⟨B3, 1, none⟩ = some (.int .i64 B) ∧ w'.cell? ⟨B3, 2, none⟩ = some (.int .i64 D)) ((repeat' apply And.intro) <;> go_simp)
    (first | (go_at_call 212; (with_reducible refine (HM.out _).mono ?_); rintro e w' ⟨rfl, rfl⟩))
  all_goals
    go_wp2
    refine bodyPost_ret (v := .tuple #[.agg #[.int .i64 N, .int .i64 B, .int .i64 D, .int .i64 Y, .int .i64 X], .int .i64 0]) (by simp [results, Try.results215, go_sem, r0, r1, r2, r3, r4, ir]) rfl ⟨rfl, (by repeat' (first | (with_reducible exact Up.refl _) | (with_reducible assumption) | (with_reducible refine Up.alloc ?_ _) | (with_reducible refine Up.drew ?_) | (with_reducible refine Up.grow ?_ _) | (with_reducible refine Up.setCell ?_ (by (try simp); (try omega)) _)))⟩
set_option maxRecDepth 100000 in
theorem i_SurrenderValue (T : Tab) (r kind age n m ld j : Int) (v : Value) (w : World) (hv : BasAt w T r v) :
    Calls Try.prog 90 #[v, .agg #[.int .i64 (kind), .int .i64 (age), .int .i64 (n), .int .i64 (m), .int .i64 (ld)], .int .i64 j] w (RetQ w (lvC T r kind age n m ld j) (T.sv r kind (ix T age) n.toNat m j.toNat)) := by
  (have hv' := hv; obtain ⟨A, c, rfl, hc, hm, hbig, hI⟩ := hv; have ht : TabAt w T (.agg #[.int .i64 T.first, .slice A T.n c]) := ⟨A, c, rfl, hc, hm, hbig, hI⟩)
  by_cases hz : lvC T r kind age n m ld j = 0
  case neg =>
    have HC := i_ChkLB (m := m) (ld := ld) (j := j) rfl hz
    rw [RetQ_bad hz]
    replace HC := Lib.hid HC
    (have hz1 : ((lvC T r kind age n m ld j) != 0) = true := (by simpa using hz)); (have hz2 : ((lvC T r kind age n m ld j) == 0) = false := (by simpa using hz))
    clear hz
    generalize lvC T r kind age n m ld j = K at *
    go_enter Try.func90, Try.ntmps90
    go_wp2_with (first | (go_at_call 215; (with_reducible refine (HC.out _ _ (hv'.up (by repeat' (first | (with_reducible exact Up.refl _) | (with_reducible assumption) | (with_reducible refine Up.alloc ?_ _) | (with_reducible refine Up.drew ?_) | (with_reducible refine Up.grow ?_ _) | (with_reducible refine Up.setCell ?_ (by (try simp); (try omega)) _))))).mono ?_); rintro e w' ⟨rfl, hb⟩; first | (obtain ⟨x, rfl⟩ := Grow.on x hb) | (obtain ⟨x, rfl⟩ := Grow.mk' hb)) | (go_at_call 218; (with_reducible refine (s_In _ _ _ _).mono ?_); rintro e w' ⟨rfl, rfl⟩) | (go_at_call 227; (with_reducible refine (i_In _ _ _ _).mono ?_); rintro e w' ⟨rfl, rfl⟩) | (go_at_call 287; (with_reducible refine (s_Rate _ _).mono ?_); rintro e w' ⟨rfl, rfl⟩) | (go_at_call 248; (with_reducible refine (i_Rate _ _).mono ?_); rintro e w' ⟨rfl, rfl⟩) | (go_at_call 323; (with_reducible refine (i_Years _ _).mono ?_); rintro e w' ⟨rfl, rfl⟩) | (go_at_call 292; (with_reducible refine (s_Amount6 _ _).mono ?_); rintro e w' ⟨rfl, rfl⟩) | (go_at_call 226; (with_reducible refine (s_Sum7 _ _).mono ?_); rintro e w' ⟨rfl, rfl⟩) | ((first | with_reducible refine wp_region_in x (by kernel_rfl) (by kernel_rfl) ?_ | with_reducible refine wp_region_here (by kernel_rfl) (by kernel_rfl) ?_); (repeat (go_big_quiet_step ((first | (go_at_call 215; with_reducible exact Ret.grow _ (HC.out _ _ (hv'.up (by repeat' (first | (with_reducible exact Up.refl _) | (with_reducible assumption) | (with_reducible refine Up.alloc ?_ _) | (with_reducible refine Up.drew ?_) | (with_reducible refine Up.grow ?_ _) | (with_reducible refine Up.setCell ?_ (by (try simp); (try omega)) _)))))) | (go_at_call 218; with_reducible exact Ret.same _ (s_In _ _ _ _)) | (go_at_call 227; with_reducible exact Ret.same _ (i_In _ _ _ _)) | (go_at_call 287; with_reducible exact Ret.same _ (s_Rate _ _)) | (go_at_call 248; with_reducible exact Ret.same _ (i_Rate _ _)) | (go_at_call 323; with_reducible exact Ret.same _ (i_Years _ _)) | (go_at_call 292; with_reducible exact Ret.same _ (s_Amount6 _ _)) | (go_at_call 226; with_reducible exact Ret.same _ (s_Sum7 _ _)))))); refine wpQuiet_nil ?_; intro w' hw'; obtain ⟨x, rfl⟩ := hw'))
    go_ret2
    exact ⟨rfl, (by repeat' (first | (with_reducible exact Up.refl _) | (with_reducible assumption) | (with_reducible refine Up.alloc ?_ _) | (with_reducible refine Up.drew ?_) | (with_reducible refine Up.grow ?_ _) | (with_reducible refine Up.setCell ?_ (by (try simp); (try omega)) _)))⟩
  rw [hz]
  obtain ⟨k, n, j, rfl, rfl, rfl, hk, hj, hd, hj2⟩ := lvC_ok hz
  simp only [RetQ_ok, ix_k, Int.toNat_natCast]
  have HC := Lib.hid (i_ChkLK hk hj hd hj2)
  have b := hk.sv_bd j hd
  have b2 := hk.res_bd j hd
  generalize T.sv r kind k n m j = X at *
  generalize T.res r kind k n m j = Y at *
  generalize T.top r kind (k + j) (n - j) = N at *
  generalize T.base r kind (k + j) (n - j) = B at *
  generalize T.D r (k + j) = D at *
  skip
  clear hz hj hd hk b b2
  go_enter Try.func90, Try.ntmps90
  go_wp2_with (first | (go_at_call 215; (with_reducible refine (HC.out _ _ (hv'.up (by repeat' (first | (with_reducible exact Up.refl _) | (with_reducible assumption) | (with_reducible refine Up.alloc ?_ _) | (with_reducible refine Up.drew ?_) | (with_reducible refine Up.grow ?_ _) | (with_reducible refine Up.setCell ?_ (by (try simp); (try omega)) _))))).mono ?_); rintro e w' ⟨rfl, hb⟩; first | (obtain ⟨x, rfl⟩ := Grow.on x hb) | (obtain ⟨x, rfl⟩ := Grow.mk' hb)) | (go_at_call 218; (with_reducible refine (s_In _ _ _ _).mono ?_); rintro e w' ⟨rfl, rfl⟩) | (go_at_call 227; (with_reducible refine (i_In _ _ _ _).mono ?_); rintro e w' ⟨rfl, rfl⟩) | (go_at_call 287; (with_reducible refine (s_Rate _ _).mono ?_); rintro e w' ⟨rfl, rfl⟩) | (go_at_call 248; (with_reducible refine (i_Rate _ _).mono ?_); rintro e w' ⟨rfl, rfl⟩) | (go_at_call 323; (with_reducible refine (i_Years _ _).mono ?_); rintro e w' ⟨rfl, rfl⟩) | (go_at_call 292; (with_reducible refine (s_Amount6 _ _).mono ?_); rintro e w' ⟨rfl, rfl⟩) | (go_at_call 226; (with_reducible refine (s_Sum7 _ _).mono ?_); rintro e w' ⟨rfl, rfl⟩) | ((first | with_reducible refine wp_region_in x (by kernel_rfl) (by kernel_rfl) ?_ | with_reducible refine wp_region_here (by kernel_rfl) (by kernel_rfl) ?_); (repeat (go_big_quiet_step ((first | (go_at_call 215; with_reducible exact Ret.grow _ (HC.out _ _ (hv'.up (by repeat' (first | (with_reducible exact Up.refl _) | (with_reducible assumption) | (with_reducible refine Up.alloc ?_ _) | (with_reducible refine Up.drew ?_) | (with_reducible refine Up.grow ?_ _) | (with_reducible refine Up.setCell ?_ (by (try simp); (try omega)) _)))))) | (go_at_call 218; with_reducible exact Ret.same _ (s_In _ _ _ _)) | (go_at_call 227; with_reducible exact Ret.same _ (i_In _ _ _ _)) | (go_at_call 287; with_reducible exact Ret.same _ (s_Rate _ _)) | (go_at_call 248; with_reducible exact Ret.same _ (i_Rate _ _)) | (go_at_call 323; with_reducible exact Ret.same _ (i_Years _ _)) | (go_at_call 292; with_reducible exact Ret.same _ (s_Amount6 _ _)) | (go_at_call 226; with_reducible exact Ret.same _ (s_Sum7 _ _)))))); refine wpQuiet_nil ?_; intro w' hw'; obtain ⟨x, rfl⟩ := hw'))
  go_ret2
  exact ⟨rfl, (by repeat' (first | (with_reducible exact Up.refl _) | (with_reducible assumption) | (with_reducible refine Up.alloc ?_ _) | (with_reducible refine Up.drew ?_) | (with_reducible refine Up.grow ?_ _) | (with_reducible refine Up.setCell ?_ (by (try simp); (try omega)) _)))⟩
set_option maxRecDepth 100000 in
theorem i_LeavingLoss (T : Tab) (r kind age n m ld j : Int) (v : Value) (w : World) (hv : BasAt w T r v) :
    Calls Try.prog 88 #[v, .agg #[.int .i64 (kind), .int .i64 (age), .int .i64 (n), .int .i64 (m), .int .i64 (ld)], .int .i64 j] w (RetQ w (lvC T r kind age n m ld j) (T.res r kind (ix T age) n.toNat m j.toNat - T.sv r kind (ix T age) n.toNat m j.toNat)) := by
  (have hv' := hv; obtain ⟨A, c, rfl, hc, hm, hbig, hI⟩ := hv; have ht : TabAt w T (.agg #[.int .i64 T.first, .slice A T.n c]) := ⟨A, c, rfl, hc, hm, hbig, hI⟩)
  by_cases hz : lvC T r kind age n m ld j = 0
  case neg =>
    have HC := i_ChkLB (m := m) (ld := ld) (j := j) rfl hz
    rw [RetQ_bad hz]
    replace HC := Lib.hid HC
    (have hz1 : ((lvC T r kind age n m ld j) != 0) = true := (by simpa using hz)); (have hz2 : ((lvC T r kind age n m ld j) == 0) = false := (by simpa using hz))
    clear hz
    generalize lvC T r kind age n m ld j = K at *
    go_enter Try.func88, Try.ntmps88
    go_wp2_with (first | (go_at_call 215; (with_reducible refine (HC.out _ _ (hv'.up (by repeat' (first | (with_reducible exact Up.refl _) | (with_reducible assumption) | (with_reducible refine Up.alloc ?_ _) | (with_reducible refine Up.drew ?_) | (with_reducible refine Up.grow ?_ _) | (with_reducible refine Up.setCell ?_ (by (try simp); (try omega)) _))))).mono ?_); rintro e w' ⟨rfl, hb⟩; first | (obtain ⟨x, rfl⟩ := Grow.on x hb) | (obtain ⟨x, rfl⟩ := Grow.mk' hb)) | (go_at_call 218; (with_reducible refine (s_In _ _ _ _).mono ?_); rintro e w' ⟨rfl, rfl⟩) | (go_at_call 227; (with_reducible refine (i_In _ _ _ _).mono ?_); rintro e w' ⟨rfl, rfl⟩) | (go_at_call 287; (with_reducible refine (s_Rate _ _).mono ?_); rintro e w' ⟨rfl, rfl⟩) | (go_at_call 248; (with_reducible refine (i_Rate _ _).mono ?_); rintro e w' ⟨rfl, rfl⟩) | (go_at_call 323; (with_reducible refine (i_Years _ _).mono ?_); rintro e w' ⟨rfl, rfl⟩) | (go_at_call 292; (with_reducible refine (s_Amount6 _ _).mono ?_); rintro e w' ⟨rfl, rfl⟩) | (go_at_call 226; (with_reducible refine (s_Sum7 _ _).mono ?_); rintro e w' ⟨rfl, rfl⟩) | ((first | with_reducible refine wp_region_in x (by kernel_rfl) (by kernel_rfl) ?_ | with_reducible refine wp_region_here (by kernel_rfl) (by kernel_rfl) ?_); (repeat (go_big_quiet_step ((first | (go_at_call 215; with_reducible exact Ret.grow _ (HC.out _ _ (hv'.up (by repeat' (first | (with_reducible exact Up.refl _) | (with_reducible assumption) | (with_reducible refine Up.alloc ?_ _) | (with_reducible refine Up.drew ?_) | (with_reducible refine Up.grow ?_ _) | (with_reducible refine Up.setCell ?_ (by (try simp); (try omega)) _)))))) | (go_at_call 218; with_reducible exact Ret.same _ (s_In _ _ _ _)) | (go_at_call 227; with_reducible exact Ret.same _ (i_In _ _ _ _)) | (go_at_call 287; with_reducible exact Ret.same _ (s_Rate _ _)) | (go_at_call 248; with_reducible exact Ret.same _ (i_Rate _ _)) | (go_at_call 323; with_reducible exact Ret.same _ (i_Years _ _)) | (go_at_call 292; with_reducible exact Ret.same _ (s_Amount6 _ _)) | (go_at_call 226; with_reducible exact Ret.same _ (s_Sum7 _ _)))))); refine wpQuiet_nil ?_; intro w' hw'; obtain ⟨x, rfl⟩ := hw'))
    go_ret2
    exact ⟨rfl, (by repeat' (first | (with_reducible exact Up.refl _) | (with_reducible assumption) | (with_reducible refine Up.alloc ?_ _) | (with_reducible refine Up.drew ?_) | (with_reducible refine Up.grow ?_ _) | (with_reducible refine Up.setCell ?_ (by (try simp); (try omega)) _)))⟩
  rw [hz]
  obtain ⟨k, n, j, rfl, rfl, rfl, hk, hj, hd, hj2⟩ := lvC_ok hz
  simp only [RetQ_ok, ix_k, Int.toNat_natCast]
  have HC := Lib.hid (i_ChkLK hk hj hd hj2)
  have b := hk.sv_bd j hd
  have b2 := hk.res_bd j hd
  generalize T.sv r kind k n m j = X at *
  generalize T.res r kind k n m j = Y at *
  generalize T.top r kind (k + j) (n - j) = N at *
  generalize T.base r kind (k + j) (n - j) = B at *
  generalize T.D r (k + j) = D at *
  have i1 : IntKind.i64.wrap (Y - X) = Y - X := IntWalk.i64_in _ (by omega)
  clear hz hj hd hk b b2
  go_enter Try.func88, Try.ntmps88
  go_wp2_with (first | (go_at_call 215; (with_reducible refine (HC.out _ _ (hv'.up (by repeat' (first | (with_reducible exact Up.refl _) | (with_reducible assumption) | (with_reducible refine Up.alloc ?_ _) | (with_reducible refine Up.drew ?_) | (with_reducible refine Up.grow ?_ _) | (with_reducible refine Up.setCell ?_ (by (try simp); (try omega)) _))))).mono ?_); rintro e w' ⟨rfl, hb⟩; first | (obtain ⟨x, rfl⟩ := Grow.on x hb) | (obtain ⟨x, rfl⟩ := Grow.mk' hb)) | (go_at_call 218; (with_reducible refine (s_In _ _ _ _).mono ?_); rintro e w' ⟨rfl, rfl⟩) | (go_at_call 227; (with_reducible refine (i_In _ _ _ _).mono ?_); rintro e w' ⟨rfl, rfl⟩) | (go_at_call 287; (with_reducible refine (s_Rate _ _).mono ?_); rintro e w' ⟨rfl, rfl⟩) | (go_at_call 248; (with_reducible refine (i_Rate _ _).mono ?_); rintro e w' ⟨rfl, rfl⟩) | (go_at_call 323; (with_reducible refine (i_Years _ _).mono ?_); rintro e w' ⟨rfl, rfl⟩) | (go_at_call 292; (with_reducible refine (s_Amount6 _ _).mono ?_); rintro e w' ⟨rfl, rfl⟩) | (go_at_call 226; (with_reducible refine (s_Sum7 _ _).mono ?_); rintro e w' ⟨rfl, rfl⟩) | ((first | with_reducible refine wp_region_in x (by kernel_rfl) (by kernel_rfl) ?_ | with_reducible refine wp_region_here (by kernel_rfl) (by kernel_rfl) ?_); (repeat (go_big_quiet_step ((first | (go_at_call 215; with_reducible exact Ret.grow _ (HC.out _ _ (hv'.up (by repeat' (first | (with_reducible exact Up.refl _) | (with_reducible assumption) | (with_reducible refine Up.alloc ?_ _) | (with_reducible refine Up.drew ?_) | (with_reducible refine Up.grow ?_ _) | (with_reducible refine Up.setCell ?_ (by (try simp); (try omega)) _)))))) | (go_at_call 218; with_reducible exact Ret.same _ (s_In _ _ _ _)) | (go_at_call 227; with_reducible exact Ret.same _ (i_In _ _ _ _)) | (go_at_call 287; with_reducible exact Ret.same _ (s_Rate _ _)) | (go_at_call 248; with_reducible exact Ret.same _ (i_Rate _ _)) | (go_at_call 323; with_reducible exact Ret.same _ (i_Years _ _)) | (go_at_call 292; with_reducible exact Ret.same _ (s_Amount6 _ _)) | (go_at_call 226; with_reducible exact Ret.same _ (s_Sum7 _ _)))))); refine wpQuiet_nil ?_; intro w' hw'; obtain ⟨x, rfl⟩ := hw'))
  go_ret2
  exact ⟨rfl, (by repeat' (first | (with_reducible exact Up.refl _) | (with_reducible assumption) | (with_reducible refine Up.alloc ?_ _) | (with_reducible refine Up.drew ?_) | (with_reducible refine Up.grow ?_ _) | (with_reducible refine Up.setCell ?_ (by (try simp); (try omega)) _)))⟩
set_option maxRecDepth 100000 in
theorem i_LoanLimit (T : Tab) (r kind age n m ld j : Int) (v : Value) (w : World) (hv : BasAt w T r v) :
    Calls Try.prog 92 #[v, .agg #[.int .i64 (kind), .int .i64 (age), .int .i64 (n), .int .i64 (m), .int .i64 (ld)], .int .i64 j] w (RetQ w (lvC T r kind age n m ld j) (T.sv r kind (ix T age) n.toNat m j.toNat * 800 / 1000)) := by
  (have hv' := hv; obtain ⟨A, c, rfl, hc, hm, hbig, hI⟩ := hv; have ht : TabAt w T (.agg #[.int .i64 T.first, .slice A T.n c]) := ⟨A, c, rfl, hc, hm, hbig, hI⟩)
  by_cases hz : lvC T r kind age n m ld j = 0
  case neg =>
    have HC := i_ChkLB (m := m) (ld := ld) (j := j) rfl hz
    rw [RetQ_bad hz]
    replace HC := Lib.hid HC
    (have hz1 : ((lvC T r kind age n m ld j) != 0) = true := (by simpa using hz)); (have hz2 : ((lvC T r kind age n m ld j) == 0) = false := (by simpa using hz))
    clear hz
    generalize lvC T r kind age n m ld j = K at *
    go_enter Try.func92, Try.ntmps92
    go_wp2_with (first | (go_at_call 215; (with_reducible refine (HC.out _ _ (hv'.up (by repeat' (first | (with_reducible exact Up.refl _) | (with_reducible assumption) | (with_reducible refine Up.alloc ?_ _) | (with_reducible refine Up.drew ?_) | (with_reducible refine Up.grow ?_ _) | (with_reducible refine Up.setCell ?_ (by (try simp); (try omega)) _))))).mono ?_); rintro e w' ⟨rfl, hb⟩; first | (obtain ⟨x, rfl⟩ := Grow.on x hb) | (obtain ⟨x, rfl⟩ := Grow.mk' hb)) | (go_at_call 218; (with_reducible refine (s_In _ _ _ _).mono ?_); rintro e w' ⟨rfl, rfl⟩) | (go_at_call 227; (with_reducible refine (i_In _ _ _ _).mono ?_); rintro e w' ⟨rfl, rfl⟩) | (go_at_call 287; (with_reducible refine (s_Rate _ _).mono ?_); rintro e w' ⟨rfl, rfl⟩) | (go_at_call 248; (with_reducible refine (i_Rate _ _).mono ?_); rintro e w' ⟨rfl, rfl⟩) | (go_at_call 323; (with_reducible refine (i_Years _ _).mono ?_); rintro e w' ⟨rfl, rfl⟩) | (go_at_call 292; (with_reducible refine (s_Amount6 _ _).mono ?_); rintro e w' ⟨rfl, rfl⟩) | (go_at_call 226; (with_reducible refine (s_Sum7 _ _).mono ?_); rintro e w' ⟨rfl, rfl⟩) | ((first | with_reducible refine wp_region_in x (by kernel_rfl) (by kernel_rfl) ?_ | with_reducible refine wp_region_here (by kernel_rfl) (by kernel_rfl) ?_); (repeat (go_big_quiet_step ((first | (go_at_call 215; with_reducible exact Ret.grow _ (HC.out _ _ (hv'.up (by repeat' (first | (with_reducible exact Up.refl _) | (with_reducible assumption) | (with_reducible refine Up.alloc ?_ _) | (with_reducible refine Up.drew ?_) | (with_reducible refine Up.grow ?_ _) | (with_reducible refine Up.setCell ?_ (by (try simp); (try omega)) _)))))) | (go_at_call 218; with_reducible exact Ret.same _ (s_In _ _ _ _)) | (go_at_call 227; with_reducible exact Ret.same _ (i_In _ _ _ _)) | (go_at_call 287; with_reducible exact Ret.same _ (s_Rate _ _)) | (go_at_call 248; with_reducible exact Ret.same _ (i_Rate _ _)) | (go_at_call 323; with_reducible exact Ret.same _ (i_Years _ _)) | (go_at_call 292; with_reducible exact Ret.same _ (s_Amount6 _ _)) | (go_at_call 226; with_reducible exact Ret.same _ (s_Sum7 _ _)))))); refine wpQuiet_nil ?_; intro w' hw'; obtain ⟨x, rfl⟩ := hw'))
    go_ret2
    exact ⟨rfl, (by repeat' (first | (with_reducible exact Up.refl _) | (with_reducible assumption) | (with_reducible refine Up.alloc ?_ _) | (with_reducible refine Up.drew ?_) | (with_reducible refine Up.grow ?_ _) | (with_reducible refine Up.setCell ?_ (by (try simp); (try omega)) _)))⟩
  rw [hz]
  obtain ⟨k, n, j, rfl, rfl, rfl, hk, hj, hd, hj2⟩ := lvC_ok hz
  simp only [RetQ_ok, ix_k, Int.toNat_natCast]
  have HC := Lib.hid (i_ChkLK hk hj hd hj2)
  have b := hk.sv_bd j hd
  have HM := Lib.hid (i_PerM (T.sv r kind k n m j) 800 b.1 (by omega) (by omega) (by omega))
  generalize T.sv r kind k n m j * 800 / 1000 = Z at *
  generalize T.sv r kind k n m j = X at *
  generalize T.res r kind k n m j = Y at *
  generalize T.top r kind (k + j) (n - j) = N at *
  generalize T.base r kind (k + j) (n - j) = B at *
  generalize T.D r (k + j) = D at *
  clear hz hj hd hk b
  go_enter Try.func92, Try.ntmps92
  go_wp2_with (first | (go_at_call 215; (with_reducible refine (HC.out _ _ (hv'.up (by repeat' (first | (with_reducible exact Up.refl _) | (with_reducible assumption) | (with_reducible refine Up.alloc ?_ _) | (with_reducible refine Up.drew ?_) | (with_reducible refine Up.grow ?_ _) | (with_reducible refine Up.setCell ?_ (by (try simp); (try omega)) _))))).mono ?_); rintro e w' ⟨rfl, hb⟩; first | (obtain ⟨x, rfl⟩ := Grow.on x hb) | (obtain ⟨x, rfl⟩ := Grow.mk' hb)) | (go_at_call 212; (with_reducible refine (HM.out _).mono ?_); rintro e w' ⟨rfl, rfl⟩) | (go_at_call 218; (with_reducible refine (s_In _ _ _ _).mono ?_); rintro e w' ⟨rfl, rfl⟩) | (go_at_call 227; (with_reducible refine (i_In _ _ _ _).mono ?_); rintro e w' ⟨rfl, rfl⟩) | (go_at_call 287; (with_reducible refine (s_Rate _ _).mono ?_); rintro e w' ⟨rfl, rfl⟩) | (go_at_call 248; (with_reducible refine (i_Rate _ _).mono ?_); rintro e w' ⟨rfl, rfl⟩) | (go_at_call 323; (with_reducible refine (i_Years _ _).mono ?_); rintro e w' ⟨rfl, rfl⟩) | (go_at_call 292; (with_reducible refine (s_Amount6 _ _).mono ?_); rintro e w' ⟨rfl, rfl⟩) | (go_at_call 226; (with_reducible refine (s_Sum7 _ _).mono ?_); rintro e w' ⟨rfl, rfl⟩) | ((first | with_reducible refine wp_region_in x (by kernel_rfl) (by kernel_rfl) ?_ | with_reducible refine wp_region_here (by kernel_rfl) (by kernel_rfl) ?_); (repeat (go_big_quiet_step ((first | (go_at_call 215; with_reducible exact Ret.grow _ (HC.out _ _ (hv'.up (by repeat' (first | (with_reducible exact Up.refl _) | (with_reducible assumption) | (with_reducible refine Up.alloc ?_ _) | (with_reducible refine Up.drew ?_) | (with_reducible refine Up.grow ?_ _) | (with_reducible refine Up.setCell ?_ (by (try simp); (try omega)) _)))))) | (go_at_call 212; with_reducible exact Ret.same _ (HM.out _)) | (go_at_call 218; with_reducible exact Ret.same _ (s_In _ _ _ _)) | (go_at_call 227; with_reducible exact Ret.same _ (i_In _ _ _ _)) | (go_at_call 287; with_reducible exact Ret.same _ (s_Rate _ _)) | (go_at_call 248; with_reducible exact Ret.same _ (i_Rate _ _)) | (go_at_call 323; with_reducible exact Ret.same _ (i_Years _ _)) | (go_at_call 292; with_reducible exact Ret.same _ (s_Amount6 _ _)) | (go_at_call 226; with_reducible exact Ret.same _ (s_Sum7 _ _)))))); refine wpQuiet_nil ?_; intro w' hw'; obtain ⟨x, rfl⟩ := hw'))
  go_ret2
  exact ⟨rfl, (by repeat' (first | (with_reducible exact Up.refl _) | (with_reducible assumption) | (with_reducible refine Up.alloc ?_ _) | (with_reducible refine Up.drew ?_) | (with_reducible refine Up.grow ?_ _) | (with_reducible refine Up.setCell ?_ (by (try simp); (try omega)) _)))⟩
set_option maxRecDepth 100000 in
theorem i_PaidUpSum (T : Tab) (r kind age n m ld j : Int) (v : Value) (w : World) (hv : BasAt w T r v) :
    Calls Try.prog 96 #[v, .agg #[.int .i64 (kind), .int .i64 (age), .int .i64 (n), .int .i64 (m), .int .i64 (ld)], .int .i64 j] w (RetQ w (lvC T r kind age n m ld j) (puV T r kind (ix T age) n.toNat m j.toNat)) := by
  (have hv' := hv; obtain ⟨A, c, rfl, hc, hm, hbig, hI⟩ := hv; have ht : TabAt w T (.agg #[.int .i64 T.first, .slice A T.n c]) := ⟨A, c, rfl, hc, hm, hbig, hI⟩)
  by_cases hz : lvC T r kind age n m ld j = 0
  case neg =>
    have HC := i_ChkLB (m := m) (ld := ld) (j := j) rfl hz
    rw [RetQ_bad hz]
    replace HC := Lib.hid HC
    (have hz1 : ((lvC T r kind age n m ld j) != 0) = true := (by simpa using hz)); (have hz2 : ((lvC T r kind age n m ld j) == 0) = false := (by simpa using hz))
    clear hz
    generalize lvC T r kind age n m ld j = K at *
    go_enter Try.func96, Try.ntmps96
    go_wp2_with (first | (go_at_call 215; (with_reducible refine (HC.out _ _ (hv'.up (by repeat' (first | (with_reducible exact Up.refl _) | (with_reducible assumption) | (with_reducible refine Up.alloc ?_ _) | (with_reducible refine Up.drew ?_) | (with_reducible refine Up.grow ?_ _) | (with_reducible refine Up.setCell ?_ (by (try simp); (try omega)) _))))).mono ?_); rintro e w' ⟨rfl, hb⟩; first | (obtain ⟨x, rfl⟩ := Grow.on x hb) | (obtain ⟨x, rfl⟩ := Grow.mk' hb)) | (go_at_call 218; (with_reducible refine (s_In _ _ _ _).mono ?_); rintro e w' ⟨rfl, rfl⟩) | (go_at_call 227; (with_reducible refine (i_In _ _ _ _).mono ?_); rintro e w' ⟨rfl, rfl⟩) | (go_at_call 287; (with_reducible refine (s_Rate _ _).mono ?_); rintro e w' ⟨rfl, rfl⟩) | (go_at_call 248; (with_reducible refine (i_Rate _ _).mono ?_); rintro e w' ⟨rfl, rfl⟩) | (go_at_call 323; (with_reducible refine (i_Years _ _).mono ?_); rintro e w' ⟨rfl, rfl⟩) | (go_at_call 292; (with_reducible refine (s_Amount6 _ _).mono ?_); rintro e w' ⟨rfl, rfl⟩) | (go_at_call 226; (with_reducible refine (s_Sum7 _ _).mono ?_); rintro e w' ⟨rfl, rfl⟩) | ((first | with_reducible refine wp_region_in x (by kernel_rfl) (by kernel_rfl) ?_ | with_reducible refine wp_region_here (by kernel_rfl) (by kernel_rfl) ?_); (repeat (go_big_quiet_step ((first | (go_at_call 215; with_reducible exact Ret.grow _ (HC.out _ _ (hv'.up (by repeat' (first | (with_reducible exact Up.refl _) | (with_reducible assumption) | (with_reducible refine Up.alloc ?_ _) | (with_reducible refine Up.drew ?_) | (with_reducible refine Up.grow ?_ _) | (with_reducible refine Up.setCell ?_ (by (try simp); (try omega)) _)))))) | (go_at_call 218; with_reducible exact Ret.same _ (s_In _ _ _ _)) | (go_at_call 227; with_reducible exact Ret.same _ (i_In _ _ _ _)) | (go_at_call 287; with_reducible exact Ret.same _ (s_Rate _ _)) | (go_at_call 248; with_reducible exact Ret.same _ (i_Rate _ _)) | (go_at_call 323; with_reducible exact Ret.same _ (i_Years _ _)) | (go_at_call 292; with_reducible exact Ret.same _ (s_Amount6 _ _)) | (go_at_call 226; with_reducible exact Ret.same _ (s_Sum7 _ _)))))); refine wpQuiet_nil ?_; intro w' hw'; obtain ⟨x, rfl⟩ := hw'))
    go_ret2
    exact ⟨rfl, (by repeat' (first | (with_reducible exact Up.refl _) | (with_reducible assumption) | (with_reducible refine Up.alloc ?_ _) | (with_reducible refine Up.drew ?_) | (with_reducible refine Up.grow ?_ _) | (with_reducible refine Up.setCell ?_ (by (try simp); (try omega)) _)))⟩
  rw [hz]
  obtain ⟨k, n, j, rfl, rfl, rfl, hk, hj, hd, hj2⟩ := lvC_ok hz
  simp only [RetQ_ok, ix_k, Int.toNat_natCast]
  have HC := Lib.hid (i_ChkLK hk hj hd hj2)
  have b := hk.sv_bd j hd
  have t := hk.hT.top_bd hk.h0 kind (k + j) (n - j)
  have d := hk.hT.D_bd hk.h0 (k + j)
  have hp := hk.paid_bd j hd
  have m1 := hk.m1; have m2 := hk.m2
  unfold puV
  generalize T.sv r kind k n m j = X at *
  generalize T.res r kind k n m j = Y at *
  generalize T.top r kind (k + j) (n - j) = N at *
  generalize T.base r kind (k + j) (n - j) = B at *
  generalize T.D r (k + j) = D at *
  by_cases hN : N = 0
  · subst hN
    rw [if_pos rfl]
    clear hz hj hd hk b d t hp
    go_enter Try.func96, Try.ntmps96
    go_wp2_with (first | (go_at_call 215; (with_reducible refine (HC.out _ _ (hv'.up (by repeat' (first | (with_reducible exact Up.refl _) | (with_reducible assumption) | (with_reducible refine Up.alloc ?_ _) | (with_reducible refine Up.drew ?_) | (with_reducible refine Up.grow ?_ _) | (with_reducible refine Up.setCell ?_ (by (try simp); (try omega)) _))))).mono ?_); rintro e w' ⟨rfl, hb⟩; first | (obtain ⟨x, rfl⟩ := Grow.on x hb) | (obtain ⟨x, rfl⟩ := Grow.mk' hb)) | (go_at_call 218; (with_reducible refine (s_In _ _ _ _).mono ?_); rintro e w' ⟨rfl, rfl⟩) | (go_at_call 227; (with_reducible refine (i_In _ _ _ _).mono ?_); rintro e w' ⟨rfl, rfl⟩) | (go_at_call 287; (with_reducible refine (s_Rate _ _).mono ?_); rintro e w' ⟨rfl, rfl⟩) | (go_at_call 248; (with_reducible refine (i_Rate _ _).mono ?_); rintro e w' ⟨rfl, rfl⟩) | (go_at_call 323; (with_reducible refine (i_Years _ _).mono ?_); rintro e w' ⟨rfl, rfl⟩) | (go_at_call 292; (with_reducible refine (s_Amount6 _ _).mono ?_); rintro e w' ⟨rfl, rfl⟩) | (go_at_call 226; (with_reducible refine (s_Sum7 _ _).mono ?_); rintro e w' ⟨rfl, rfl⟩) | ((first | with_reducible refine wp_region_in x (by kernel_rfl) (by kernel_rfl) ?_ | with_reducible refine wp_region_here (by kernel_rfl) (by kernel_rfl) ?_); (repeat (go_big_quiet_step ((first | (go_at_call 215; with_reducible exact Ret.grow _ (HC.out _ _ (hv'.up (by repeat' (first | (with_reducible exact Up.refl _) | (with_reducible assumption) | (with_reducible refine Up.alloc ?_ _) | (with_reducible refine Up.drew ?_) | (with_reducible refine Up.grow ?_ _) | (with_reducible refine Up.setCell ?_ (by (try simp); (try omega)) _)))))) | (go_at_call 218; with_reducible exact Ret.same _ (s_In _ _ _ _)) | (go_at_call 227; with_reducible exact Ret.same _ (i_In _ _ _ _)) | (go_at_call 287; with_reducible exact Ret.same _ (s_Rate _ _)) | (go_at_call 248; with_reducible exact Ret.same _ (i_Rate _ _)) | (go_at_call 323; with_reducible exact Ret.same _ (i_Years _ _)) | (go_at_call 292; with_reducible exact Ret.same _ (s_Amount6 _ _)) | (go_at_call 226; with_reducible exact Ret.same _ (s_Sum7 _ _)))))); refine wpQuiet_nil ?_; intro w' hw'; obtain ⟨x, rfl⟩ := hw'))
    go_ret2
    exact ⟨rfl, (by repeat' (first | (with_reducible exact Up.refl _) | (with_reducible assumption) | (with_reducible refine Up.alloc ?_ _) | (with_reducible refine Up.drew ?_) | (with_reducible refine Up.grow ?_ _) | (with_reducible refine Up.setCell ?_ (by (try simp); (try omega)) _)))⟩
  · rw [if_neg hN]
    have hq := hp (by omega)
    have HU := Lib.hid (i_Md X D N (by omega) (by omega) (by omega) (by omega) (by omega) (by omega) (by omega))
    have hN1 : (N == 0) = false := by simpa using hN
    generalize qd X D N = Q at *
    generalize rm X D N = R at *
    clear hz hj hd hk b d t hp hN
    go_enter Try.func96, Try.ntmps96
    go_wp2_with (first | (go_at_call 215; (with_reducible refine (HC.out _ _ (hv'.up (by repeat' (first | (with_reducible exact Up.refl _) | (with_reducible assumption) | (with_reducible refine Up.alloc ?_ _) | (with_reducible refine Up.drew ?_) | (with_reducible refine Up.grow ?_ _) | (with_reducible refine Up.setCell ?_ (by (try simp); (try omega)) _))))).mono ?_); rintro e w' ⟨rfl, hb⟩; first | (obtain ⟨x, rfl⟩ := Grow.on x hb) | (obtain ⟨x, rfl⟩ := Grow.mk' hb)) | (go_at_call 244; (with_reducible refine (HU.out _).mono ?_); rintro e w' ⟨rfl, hb⟩; first | (obtain ⟨x, rfl⟩ := Grow.on x hb) | (obtain ⟨x, rfl⟩ := Grow.mk' hb)) | (go_at_call 218; (with_reducible refine (s_In _ _ _ _).mono ?_); rintro e w' ⟨rfl, rfl⟩) | (go_at_call 227; (with_reducible refine (i_In _ _ _ _).mono ?_); rintro e w' ⟨rfl, rfl⟩) | (go_at_call 287; (with_reducible refine (s_Rate _ _).mono ?_); rintro e w' ⟨rfl, rfl⟩) | (go_at_call 248; (with_reducible refine (i_Rate _ _).mono ?_); rintro e w' ⟨rfl, rfl⟩) | (go_at_call 323; (with_reducible refine (i_Years _ _).mono ?_); rintro e w' ⟨rfl, rfl⟩) | (go_at_call 292; (with_reducible refine (s_Amount6 _ _).mono ?_); rintro e w' ⟨rfl, rfl⟩) | (go_at_call 226; (with_reducible refine (s_Sum7 _ _).mono ?_); rintro e w' ⟨rfl, rfl⟩) | ((first | with_reducible refine wp_region_in x (by kernel_rfl) (by kernel_rfl) ?_ | with_reducible refine wp_region_here (by kernel_rfl) (by kernel_rfl) ?_); (repeat (go_big_quiet_step ((first | (go_at_call 215; with_reducible exact Ret.grow _ (HC.out _ _ (hv'.up (by repeat' (first | (with_reducible exact Up.refl _) | (with_reducible assumption) | (with_reducible refine Up.alloc ?_ _) | (with_reducible refine Up.drew ?_) | (with_reducible refine Up.grow ?_ _) | (with_reducible refine Up.setCell ?_ (by (try simp); (try omega)) _)))))) | (go_at_call 244; with_reducible exact Ret.grow _ (HU.out _)) | (go_at_call 218; with_reducible exact Ret.same _ (s_In _ _ _ _)) | (go_at_call 227; with_reducible exact Ret.same _ (i_In _ _ _ _)) | (go_at_call 287; with_reducible exact Ret.same _ (s_Rate _ _)) | (go_at_call 248; with_reducible exact Ret.same _ (i_Rate _ _)) | (go_at_call 323; with_reducible exact Ret.same _ (i_Years _ _)) | (go_at_call 292; with_reducible exact Ret.same _ (s_Amount6 _ _)) | (go_at_call 226; with_reducible exact Ret.same _ (s_Sum7 _ _)))))); refine wpQuiet_nil ?_; intro w' hw'; obtain ⟨x, rfl⟩ := hw'))
    go_ret2
    exact ⟨rfl, (by repeat' (first | (with_reducible exact Up.refl _) | (with_reducible assumption) | (with_reducible refine Up.alloc ?_ _) | (with_reducible refine Up.drew ?_) | (with_reducible refine Up.grow ?_ _) | (with_reducible refine Up.setCell ?_ (by (try simp); (try omega)) _)))⟩
end Go.Proofs.Ytklnikaakpebnaa
