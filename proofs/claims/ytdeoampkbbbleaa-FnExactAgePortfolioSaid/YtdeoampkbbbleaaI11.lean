/- Contracts of the program's reserves: parts, forward reserves, codes. Condition: the slice reads as the table's numbers. -/
import Derived.Test.YtdeoampkbbbleaaI10b
import Derived.Test.YtdeoampkbbbleaaS11
namespace Go.Proofs.Ytdeoampkbbbleaa
open Go.RowKit Pu

set_option maxRecDepth 100000 in
theorem i_Ben0 {T : Tab} {r : Int} (k : Nat) (w : World) :
    Calls Try.prog 263 #[.int .i64 0, colV T r k, col0] w (Ret w (.tuple #[.int .i64 (T.M r k), .int .i64 (T.N r k)])) := by
  unfold colV col0
  go_enter Try.func263, Try.ntmps263
  go_wp2_with ((first | with_reducible refine wp_region_in x (by kernel_rfl) (by kernel_rfl) ?_ | with_reducible refine wp_region_here (by kernel_rfl) (by kernel_rfl) ?_); (repeat (go_big_quiet_step ((fail)))); refine wpQuiet_nil ?_; intro w' hw'; obtain ⟨x, rfl⟩ := hw')
  go_ret2
  exact ⟨rfl, (by repeat' (first | (with_reducible exact Up.refl _) | (with_reducible assumption) | (with_reducible refine Up.alloc ?_ _) | (with_reducible refine Up.drew ?_) | (with_reducible refine Up.grow ?_ _) | (with_reducible refine Up.setCell ?_ (by (try simp); (try omega)) _)))⟩
/-- What a reserve is made of, as the program holds it. -/
def rpV (T : Tab) (r kind : Int) (k n j : Nat) : Value := .agg #[.int .i64 (T.top r kind (k + j) (n - j)), .int .i64 (T.base r kind (k + j) (n - j)), .int .i64 (T.D r (k + j))]
def rp0 : Value := .agg #[.int .i64 0, .int .i64 0, .int .i64 0]
section
variable {T : Tab} {r kind : Int} {k n : Nat} {m ld : Int} (h : PK T r kind k n m ld)
include h
set_option maxRecDepth 100000 in
set_option maxHeartbeats 2000000 in
theorem i_PartsA (hk : kind = 0) {j : Nat} (hj : j < T.dur kind k n) (v lv : Value) (w : World) (hv : BasAt w T r v) (hl : ColsAt w lv T r) :
    Calls Try.prog 249 #[v, .agg #[.int .i64 (kind), .int .i64 (T.first + k), .int .i64 (n), .int .i64 (m), .int .i64 (ld)], lv, .int .i64 j] w (Ret w (rpV T r kind k n j)) := by
  (have hv' := hv; obtain ⟨A, c, rfl, hc, hm, hbig, hI⟩ := hv; have ht : TabAt w T (.agg #[.int .i64 T.first, .slice A T.n c]) := ⟨A, c, rfl, hc, hm, hbig, hI⟩)
  have e := h.jl hj
  have q1 := h.hT.lo
  have i1 : IntKind.i64.wrap (T.first + k + j) = T.first + k + j := IntWalk.i64_in _ (by omega)
  have HA := i_At h.hT (r := r) (k + j) (by omega)
  rw [show T.first + ((k + j : Nat) : Int) = T.first + k + j from by omega] at HA
  subst hk
  have HB := i_Ben0 (T := T) (r := r) (k + j)
  unfold rpV
  rw [show T.top r 0 (k + j) (n - j) = T.M r (k + j) from rfl, show T.base r 0 (k + j) (n - j) = T.N r (k + j) from rfl]
  unfold colV at HA HB
  unfold col0 at HB
  generalize T.M r (k + j) = M at *
  generalize T.N r (k + j) = N at *
  generalize T.C r (k + j) = C at *
  generalize T.D r (k + j) = D at *
  replace HA := Lib.hid HA
  replace HB := Lib.hid HB
  obtain ⟨g, cs, rfl, hg, hcs⟩ := hl
  have hl : ColsAt w (.slice (some ⟨g, 0, none⟩) (151 - T.first).toNat (151 - T.first).toNat) T r := ⟨g, cs, rfl, hg, hcs⟩
  generalize (151 - T.first).toNat = L at *
  clear e hj h hcs hg
  go_enter Try.func249, Try.ntmps249
  go_wp2_with (first | (go_at_call 209; (with_reducible refine (HA.out _ _ _ (hv'.up (by repeat' (first | (with_reducible exact Up.refl _) | (with_reducible assumption) | (with_reducible refine Up.alloc ?_ _) | (with_reducible refine Up.drew ?_) | (with_reducible refine Up.grow ?_ _) | (with_reducible refine Up.setCell ?_ (by (try simp); (try omega)) _)))) (hl.up (by repeat' (first | (with_reducible exact Up.refl _) | (with_reducible assumption) | (with_reducible refine Up.alloc ?_ _) | (with_reducible refine Up.drew ?_) | (with_reducible refine Up.grow ?_ _) | (with_reducible refine Up.setCell ?_ (by (try simp); (try omega)) _))))).mono ?_); rintro e w' ⟨rfl, hb⟩; first | (obtain ⟨x, rfl⟩ := Grow.on x hb) | (obtain ⟨x, rfl⟩ := Grow.mk' hb)) | (go_at_call 263; (with_reducible refine (HB.out _).mono ?_); rintro e w' ⟨rfl, hb⟩; first | (obtain ⟨x, rfl⟩ := Grow.on x hb) | (obtain ⟨x, rfl⟩ := Grow.mk' hb)) | (go_at_call 142; (with_reducible refine (s_In _ _ _ _).mono ?_); rintro e w' ⟨rfl, rfl⟩) | (go_at_call 186; (with_reducible refine (i_In _ _ _ _).mono ?_); rintro e w' ⟨rfl, rfl⟩) | (go_at_call 222; (with_reducible refine (s_Rate _ _).mono ?_); rintro e w' ⟨rfl, rfl⟩) | (go_at_call 165; (with_reducible refine (i_Rate _ _).mono ?_); rintro e w' ⟨rfl, rfl⟩) | (go_at_call 262; (with_reducible refine (i_Years _ _).mono ?_); rintro e w' ⟨rfl, rfl⟩) | (go_at_call 227; (with_reducible refine (s_Amount6 _ _).mono ?_); rintro e w' ⟨rfl, rfl⟩) | (go_at_call 236; (with_reducible refine (s_Sum7 _ _).mono ?_); rintro e w' ⟨rfl, rfl⟩) | ((first | with_reducible refine wp_region_in x (by kernel_rfl) (by kernel_rfl) ?_ | with_reducible refine wp_region_here (by kernel_rfl) (by kernel_rfl) ?_); (repeat (go_big_quiet_step ((first | (go_at_call 209; with_reducible exact Ret.grow _ (HA.out _ _ _ (hv'.up (by repeat' (first | (with_reducible exact Up.refl _) | (with_reducible assumption) | (with_reducible refine Up.alloc ?_ _) | (with_reducible refine Up.drew ?_) | (with_reducible refine Up.grow ?_ _) | (with_reducible refine Up.setCell ?_ (by (try simp); (try omega)) _)))) (hl.up (by repeat' (first | (with_reducible exact Up.refl _) | (with_reducible assumption) | (with_reducible refine Up.alloc ?_ _) | (with_reducible refine Up.drew ?_) | (with_reducible refine Up.grow ?_ _) | (with_reducible refine Up.setCell ?_ (by (try simp); (try omega)) _)))))) | (go_at_call 263; with_reducible exact Ret.grow _ (HB.out _)) | (go_at_call 142; with_reducible exact Ret.same _ (s_In _ _ _ _)) | (go_at_call 186; with_reducible exact Ret.same _ (i_In _ _ _ _)) | (go_at_call 222; with_reducible exact Ret.same _ (s_Rate _ _)) | (go_at_call 165; with_reducible exact Ret.same _ (i_Rate _ _)) | (go_at_call 262; with_reducible exact Ret.same _ (i_Years _ _)) | (go_at_call 227; with_reducible exact Ret.same _ (s_Amount6 _ _)) | (go_at_call 236; with_reducible exact Ret.same _ (s_Sum7 _ _)))))); refine wpQuiet_nil ?_; intro w' hw'; obtain ⟨x, rfl⟩ := hw'))
  have hR : Blk x.to (w.heap.size + 1 + 1) 128 #[.int .i64 0, .int .i64 0, .int .i64 0] := by
    have h := (Blk.new ((w.alloc (.cells #[.int .i64 T.first, .slice A T.n c, .int .i64 r] 33)).alloc (.cells #[.int .i64 (0), .int .i64 (T.first + k), .int .i64 (n), .int .i64 (m), .int .i64 (ld)] 85)) 128 #[.int .i64 0, .int .i64 0, .int .i64 0]).up (show Up _ x.to from (by repeat' (first | (with_reducible exact Up.refl _) | (with_reducible assumption) | (with_reducible refine Up.alloc ?_ _) | (with_reducible refine Up.drew ?_) | (with_reducible refine Up.grow ?_ _) | (with_reducible refine Up.setCell ?_ (by (try simp); (try omega)) _))))
    simpa only [World.size_alloc] using h
  have r0 := hR.cell 0
  have r1 := hR.cell 1
  have r2 := hR.cell 2
  refine bodyPost_ret (v := .agg #[.int .i64 (M), .int .i64 (N), .int .i64 (D)]) (by simp [results, Try.results249, go_sem, r0, r1, r2]) rfl ⟨rfl, (by repeat' (first | (with_reducible exact Up.refl _) | (with_reducible assumption) | (with_reducible refine Up.alloc ?_ _) | (with_reducible refine Up.drew ?_) | (with_reducible refine Up.grow ?_ _) | (with_reducible refine Up.setCell ?_ (by (try simp); (try omega)) _)))⟩
set_option maxRecDepth 100000 in
set_option maxHeartbeats 2000000 in
theorem i_PartsB (hk : ¬ kind = 0) {j : Nat} (hj : j < T.dur kind k n) (v lv : Value) (w : World) (hv : BasAt w T r v) (hl : ColsAt w lv T r) :
    Calls Try.prog 249 #[v, .agg #[.int .i64 (kind), .int .i64 (T.first + k), .int .i64 (n), .int .i64 (m), .int .i64 (ld)], lv, .int .i64 j] w (Ret w (rpV T r kind k n j)) := by
  (have hv' := hv; obtain ⟨A, c, rfl, hc, hm, hbig, hI⟩ := hv; have ht : TabAt w T (.agg #[.int .i64 T.first, .slice A T.n c]) := ⟨A, c, rfl, hc, hm, hbig, hI⟩)
  have e := h.jl hj
  have q1 := h.hT.lo
  have q2 := h.hl
  have i1 : IntKind.i64.wrap (T.first + k + j) = T.first + k + j := IntWalk.i64_in _ (by omega)
  have i2 : IntKind.i64.wrap (T.first + k + n) = T.first + k + n := IntWalk.i64_in _ (by omega)
  have HA := i_At h.hT (r := r) (k + j) (by omega)
  have HA2 := i_At h.hT (r := r) (k + n) (by omega)
  rw [show T.first + ((k + j : Nat) : Int) = T.first + k + j from by omega] at HA
  rw [show T.first + ((k + n : Nat) : Int) = T.first + k + n from by omega] at HA2
  have HB := i_Ben h.hT h.h0 h.k1 h.k2 (k + j) (n - j)
  have en := e.2.2.2 hk
  rw [show k + j + (n - j) = k + n from by omega] at HB
  have hk1 : (kind == 0) = false := by simpa using hk
  unfold rpV
  unfold colV at HA HA2 HB
  generalize T.top r kind (k + j) (n - j) = X at *
  generalize T.base r kind (k + j) (n - j) = Y at *
  generalize T.M r (k + j) = M at *
  generalize T.N r (k + j) = N at *
  generalize T.C r (k + j) = C at *
  generalize T.D r (k + j) = D at *
  generalize T.M r (k + n) = M2 at *
  generalize T.N r (k + n) = N2 at *
  generalize T.C r (k + n) = C2 at *
  generalize T.D r (k + n) = D2 at *
  replace HA := Lib.hid HA
  replace HA2 := Lib.hid HA2
  replace HB := Lib.hid HB
  obtain ⟨g, cs, rfl, hg, hcs⟩ := hl
  have hl : ColsAt w (.slice (some ⟨g, 0, none⟩) (151 - T.first).toNat (151 - T.first).toNat) T r := ⟨g, cs, rfl, hg, hcs⟩
  generalize (151 - T.first).toNat = L at *
  clear e hj h hk hcs hg
  go_enter Try.func249, Try.ntmps249
  go_wp2_with (first | (go_at_call 263; (with_reducible refine (HB.out _).mono ?_); rintro e w3 ⟨rfl, hb3⟩; have hR : Blk w3 (w.heap.size + 1 + 1) 128 #[.int .i64 0, .int .i64 0, .int .i64 0] := (by have h := (Blk.new ((w.alloc (.cells #[.int .i64 T.first, .slice A T.n c, .int .i64 r] 33)).alloc (.cells #[.int .i64 (kind), .int .i64 (T.first + k), .int .i64 (n), .int .i64 (m), .int .i64 (ld)] 85)) 128 #[.int .i64 0, .int .i64 0, .int .i64 0]).up (Up.trans (by repeat' (first | (with_reducible exact Up.refl _) | (with_reducible assumption) | (with_reducible refine Up.alloc ?_ _) | (with_reducible refine Up.drew ?_) | (with_reducible refine Up.grow ?_ _) | (with_reducible refine Up.setCell ?_ (by (try simp); (try omega)) _))) hb3); simpa only [World.size_alloc] using h); have r0 := hR.cell 0; have r1 := hR.cell 1; have r2 := hR.cell 2; have rf := hR.frozen; have ir := hR.inw; have hN0 : Blk w3 x1.to.heap.size 80 #[.int .i64 D, .int .i64 N, .int .i64 C, .int .i64 M] := (Blk.new x1.to 80 #[.int .i64 D, .int .i64 N, .int .i64 C, .int .i64 M]).up (Up.trans (by repeat' (first | (with_reducible exact Up.refl _) | (with_reducible assumption) | (with_reducible refine Up.alloc ?_ _) | (with_reducible refine Up.drew ?_) | (with_reducible refine Up.grow ?_ _) | (with_reducible refine Up.setCell ?_ (by (try simp); (try omega)) _))) hb3); have d0 := hN0.cell 0; have hup3 : Up w w3 := Up.trans (by repeat' (first | (with_reducible exact Up.refl _) | (with_reducible assumption) | (with_reducible refine Up.alloc ?_ _) | (with_reducible refine Up.drew ?_) | (with_reducible refine Up.grow ?_ _) | (with_reducible refine Up.setCell ?_ (by (try simp); (try omega)) _))) hb3; clear hN0; obtain ⟨x3, rfl⟩ := Grow.mk' hup3) | (go_at_call 209; (with_reducible refine (HA.out _ _ _ (hv'.up (by repeat' (first | (with_reducible exact Up.refl _) | (with_reducible assumption) | (with_reducible refine Up.alloc ?_ _) | (with_reducible refine Up.drew ?_) | (with_reducible refine Up.grow ?_ _) | (with_reducible refine Up.setCell ?_ (by (try simp); (try omega)) _)))) (hl.up (by repeat' (first | (with_reducible exact Up.refl _) | (with_reducible assumption) | (with_reducible refine Up.alloc ?_ _) | (with_reducible refine Up.drew ?_) | (with_reducible refine Up.grow ?_ _) | (with_reducible refine Up.setCell ?_ (by (try simp); (try omega)) _))))).mono ?_); rintro e w1 ⟨rfl, hb1⟩; obtain ⟨x1, rfl⟩ := Grow.mk' hb1; have s1 := x1.size; simp only [World.size_alloc] at s1; have n1 : ¬ w.heap.size = x1.to.heap.size := (by omega); have n2 : ¬ w.heap.size = x1.to.heap.size + 1 := (by omega); have n3 : ¬ w.heap.size + 1 = x1.to.heap.size := (by omega); have n4 : ¬ x1.to.heap.size = w.heap.size := (by omega); have n5 : ¬ x1.to.heap.size + 1 = w.heap.size := (by omega); have n6 : ¬ x1.to.heap.size = w.heap.size + 1 := (by omega); have n7 : ¬ w.heap.size + 1 = x1.to.heap.size + 1 := (by omega); have n8 : ¬ w.heap.size + 1 + 1 = x1.to.heap.size + 1 := (by omega)) | (go_at_call 209; (with_reducible refine (HA2.out _ _ _ (hv'.up (by repeat' (first | (with_reducible exact Up.refl _) | (with_reducible assumption) | (with_reducible refine Up.alloc ?_ _) | (with_reducible refine Up.drew ?_) | (with_reducible refine Up.grow ?_ _) | (with_reducible refine Up.setCell ?_ (by (try simp); (try omega)) _)))) (hl.up (by repeat' (first | (with_reducible exact Up.refl _) | (with_reducible assumption) | (with_reducible refine Up.alloc ?_ _) | (with_reducible refine Up.drew ?_) | (with_reducible refine Up.grow ?_ _) | (with_reducible refine Up.setCell ?_ (by (try simp); (try omega)) _))))).mono ?_); rintro e w' ⟨rfl, hb⟩; first | (obtain ⟨x, rfl⟩ := Grow.on x hb) | (obtain ⟨x, rfl⟩ := Grow.mk' hb)) | (go_at_call 142; (with_reducible refine (s_In _ _ _ _).mono ?_); rintro e w' ⟨rfl, rfl⟩) | (go_at_call 186; (with_reducible refine (i_In _ _ _ _).mono ?_); rintro e w' ⟨rfl, rfl⟩) | (go_at_call 222; (with_reducible refine (s_Rate _ _).mono ?_); rintro e w' ⟨rfl, rfl⟩) | (go_at_call 165; (with_reducible refine (i_Rate _ _).mono ?_); rintro e w' ⟨rfl, rfl⟩) | (go_at_call 262; (with_reducible refine (i_Years _ _).mono ?_); rintro e w' ⟨rfl, rfl⟩) | (go_at_call 227; (with_reducible refine (s_Amount6 _ _).mono ?_); rintro e w' ⟨rfl, rfl⟩) | (go_at_call 236; (with_reducible refine (s_Sum7 _ _).mono ?_); rintro e w' ⟨rfl, rfl⟩) | ((first | with_reducible refine wp_region_in x (by kernel_rfl) (by kernel_rfl) ?_ | with_reducible refine wp_region_here (by kernel_rfl) (by kernel_rfl) ?_); (repeat (go_big_quiet_step ((first | (go_at_call 209; with_reducible exact Ret.grow _ (HA2.out _ _ _ (hv'.up (by repeat' (first | (with_reducible exact Up.refl _) | (with_reducible assumption) | (with_reducible refine Up.alloc ?_ _) | (with_reducible refine Up.drew ?_) | (with_reducible refine Up.grow ?_ _) | (with_reducible refine Up.setCell ?_ (by (try simp); (try omega)) _)))) (hl.up (by repeat' (first | (with_reducible exact Up.refl _) | (with_reducible assumption) | (with_reducible refine Up.alloc ?_ _) | (with_reducible refine Up.drew ?_) | (with_reducible refine Up.grow ?_ _) | (with_reducible refine Up.setCell ?_ (by (try simp); (try omega)) _)))))) | (go_at_call 142; with_reducible exact Ret.same _ (s_In _ _ _ _)) | (go_at_call 186; with_reducible exact Ret.same _ (i_In _ _ _ _)) | (go_at_call 222; with_reducible exact Ret.same _ (s_Rate _ _)) | (go_at_call 165; with_reducible exact Ret.same _ (i_Rate _ _)) | (go_at_call 262; with_reducible exact Ret.same _ (i_Years _ _)) | (go_at_call 227; with_reducible exact Ret.same _ (s_Amount6 _ _)) | (go_at_call 236; with_reducible exact Ret.same _ (s_Sum7 _ _)))))); refine wpQuiet_nil ?_; intro w' hw'; obtain ⟨x, rfl⟩ := hw'))
  refine bodyPost_ret (v := .agg #[.int .i64 (X), .int .i64 (Y), .int .i64 (D)]) (by simp [results, Try.results249, go_sem, r0, r1, r2]) rfl ⟨rfl, (by repeat' (first | (with_reducible exact Up.refl _) | (with_reducible assumption) | (with_reducible refine Up.alloc ?_ _) | (with_reducible refine Up.drew ?_) | (with_reducible refine Up.grow ?_ _) | (with_reducible refine Up.setCell ?_ (by (try simp); (try omega)) _)))⟩
theorem i_Parts {j : Nat} (hj : j < T.dur kind k n) (v lv : Value) (w : World) (hv : BasAt w T r v) (hl : ColsAt w lv T r) :
    Calls Try.prog 249 #[v, .agg #[.int .i64 (kind), .int .i64 (T.first + k), .int .i64 (n), .int .i64 (m), .int .i64 (ld)], lv, .int .i64 j] w (Ret w (rpV T r kind k n j)) := by
  by_cases hk : kind = 0
  · exact i_PartsA h hk hj v lv w hv hl
  · exact i_PartsB h hk hj v lv w hv hl
end
end Go.Proofs.Ytdeoampkbbbleaa
