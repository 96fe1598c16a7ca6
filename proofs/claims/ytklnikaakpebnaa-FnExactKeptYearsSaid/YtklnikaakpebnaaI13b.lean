/- Contracts of the program's GreatestReserve, RiskAt, BestLeaving, KeptYears. Condition: the slice reads as the table's numbers. -/
import Derived.Test.YtklnikaakpebnaaI13
import Derived.Test.YtklnikaakpebnaaI12
namespace Go.Proofs.Ytklnikaakpebnaa
open Go.RowKit Pu

set_option maxRecDepth 100000 in
set_option maxHeartbeats 2000000 in
theorem i_GreatestReserve (T : Tab) (r kind age n m ld : Int) (v : Value) (w : World) (hv : BasAt w T r v) :
    Calls Try.prog 86 #[v, .agg #[.int .i64 (kind), .int .i64 (age), .int .i64 (n), .int .i64 (m), .int .i64 (ld)]] w (RetQ3 w (rlC T r kind age n m ld) (grV T r kind (ix T age) n.toNat m) (grK T r kind (ix T age) n.toNat m)) := by
  (have hv' := hv; obtain ⟨A, c, rfl, hc, hm, hbig, hI⟩ := hv; have ht : TabAt w T (.agg #[.int .i64 T.first, .slice A T.n c]) := ⟨A, c, rfl, hc, hm, hbig, hI⟩)
  have HR := i_ReserveList T r kind age n m ld
  by_cases hz : rlC T r kind age n m ld = 0
  case neg =>
    rw [RetQ3_bad hz]
    replace HR := Lib.hid HR
    (have hz1 : ((rlC T r kind age n m ld) != 0) = true := (by simpa using hz)); (have hz2 : ((rlC T r kind age n m ld) == 0) = false := (by simpa using hz))
    clear hz
    generalize rlC T r kind age n m ld = K at *
    go_enter Try.func86, Try.ntmps86
    go_wp2_with (go_at_call 83; refine (HR.out _ _ (hv'.up (by repeat' (first | (with_reducible exact Up.refl _) | (with_reducible assumption) | (with_reducible refine Up.alloc ?_ _) | (with_reducible refine Up.drew ?_) | (with_reducible refine Up.grow ?_ _) | (with_reducible refine Up.setCell ?_ (by (try simp); (try omega)) _))))).mono ?_; rintro e w5 ⟨vl, rfl, hb5, hown⟩; obtain ⟨x, rfl⟩ := Grow.mk' hb5)
    go_ret3
    exact ⟨rfl, (by repeat' (first | (with_reducible exact Up.refl _) | (with_reducible assumption) | (with_reducible refine Up.alloc ?_ _) | (with_reducible refine Up.drew ?_) | (with_reducible refine Up.grow ?_ _) | (with_reducible refine Up.setCell ?_ (by (try simp); (try omega)) _)))⟩
  obtain ⟨k, n, rfl, rfl, hk, hlast⟩ := rlC_cases hz
  rw [hk.rl_list hz, hz] at HR
  rw [hz]
  simp only [RetQ3_ok, ix_k, Int.toNat_natCast]
  have db := hk.dur_bd
  unfold grV grK
  generalize T.dur kind k n = U at *
  generalize T.rg r kind k n m = G at *
  replace HR := Lib.hid HR
  obtain ⟨BU, hBU⟩ : ∃ x, bst G U = x := ⟨_, rfl⟩
  rw [hBU]
  have HBU := Lib.hid hBU
  clear hz hlast hk hBU
  go_enter Try.func86, Try.ntmps86
  go_wp2_with (go_at_call 83; refine (HR.out _ _ (hv'.up (by repeat' (first | (with_reducible exact Up.refl _) | (with_reducible assumption) | (with_reducible refine Up.alloc ?_ _) | (with_reducible refine Up.drew ?_) | (with_reducible refine Up.grow ?_ _) | (with_reducible refine Up.setCell ?_ (by (try simp); (try omega)) _))))).mono ?_; rintro e w5 ⟨vl, rfl, hb5, hown⟩; obtain ⟨g, c5, rfl, k1, k2, k3, hcell⟩ := hown.fn (by omega))
  have hup5 : Up w w5 := Up.trans (by repeat' (first | (with_reducible exact Up.refl _) | (with_reducible assumption) | (with_reducible refine Up.alloc ?_ _) | (with_reducible refine Up.drew ?_) | (with_reducible refine Up.grow ?_ _) | (with_reducible refine Up.setCell ?_ (by (try simp); (try omega)) _))) hb5
  have HC := Lib.hid hcell
  clear hcell hown hb5
  go_loopw [9, 23] (fun bs i wr => ∃ (j : Nat) (y : Grow w5), j ≤ U ∧ i = .int .i64 j ∧ bs = .int .i64 (bst G j) ∧ wr = y.to) (fun _ i _ => U - (intOf i).toNat)
  case atStart => exact ⟨0, ⟨w5, Below.refl _ _⟩, by omega, rfl, rfl, rfl⟩
  case round =>
    obtain ⟨j, x, hj, rfl, rfl, rfl⟩ := hrel
    by_cases hlt : j < U
    · have hb := bst_lt G j
      have c1 := grow_fn k3 HC.out hlt
      have c2 := grow_fn k3 HC.out (show bst G j < U by omega)
      have E := Lib.hid (bst_succ G j)
      have hb2 : bst G j < U := by omega
      have hb3 : ((bst G j : Nat) : Int) < (U : Int) := by omega
      generalize bst G j = B at *
      by_cases hg : G B < G j
      · have E2 := Lib.hid (show bst G (j + 1) = j by rw [E.out, if_pos hg])
        go_wp2_with ((first | with_reducible refine wp_region_in x (by kernel_rfl) (by kernel_rfl) ?_ | with_reducible refine wp_region_here (by kernel_rfl) (by kernel_rfl) ?_); (repeat (go_big_quiet_step ((fail)))); refine wpQuiet_nil ?_; intro w' hw'; obtain ⟨x, rfl⟩ := hw')
        go_roundw
        case rel => exact ⟨j + 1, x, by omega, by go_num, by rw [E2.out], rfl⟩
        case measure => simp [intOf]; omega
      · have E2 := Lib.hid (show bst G (j + 1) = B by rw [E.out, if_neg hg])
        go_wp2_with ((first | with_reducible refine wp_region_in x (by kernel_rfl) (by kernel_rfl) ?_ | with_reducible refine wp_region_here (by kernel_rfl) (by kernel_rfl) ?_); (repeat (go_big_quiet_step ((fail)))); refine wpQuiet_nil ?_; intro w' hw'; obtain ⟨x, rfl⟩ := hw')
        go_roundw
        case rel => exact ⟨j + 1, x, by omega, by go_num, by rw [E2.out], rfl⟩
        case measure => simp [intOf]; omega
    · have hjU : j = U := by omega
      subst hjU
      have hb := bst_lt G j
      have E := Lib.hid HBU.out
      have hb2 : bst G j < j := by omega
      have c2 := grow_fn k3 HC.out hb2
      have hb3 : ((bst G j : Nat) : Int) < (j : Int) := by omega
      have E2 := E.out
      rw [E2] at c2 hb2 hb3 ⊢
      go_wp2_with ((first | with_reducible refine wp_region_in x (by kernel_rfl) (by kernel_rfl) ?_ | with_reducible refine wp_region_here (by kernel_rfl) (by kernel_rfl) ?_); (repeat (go_big_quiet_step ((fail)))); refine wpQuiet_nil ?_; intro w' hw'; obtain ⟨x, rfl⟩ := hw')
      go_ret3
      exact ⟨rfl, hup5.trans (by repeat' (first | (with_reducible exact Up.refl _) | (with_reducible assumption) | (with_reducible refine Up.alloc ?_ _) | (with_reducible refine Up.drew ?_) | (with_reducible refine Up.grow ?_ _) | (with_reducible refine Up.setCell ?_ (by (try simp); (try omega)) _)))⟩
set_option maxRecDepth 100000 in
set_option maxHeartbeats 2000000 in
theorem i_RiskAt (T : Tab) (r kind age n m ld j : Int) (v : Value) (w : World) (hv : BasAt w T r v) :
    Calls Try.prog 94 #[v, .agg #[.int .i64 (kind), .int .i64 (age), .int .i64 (n), .int .i64 (m), .int .i64 (ld)], .int .i64 j] w (RetQ w (rkC T r kind age n m ld j) (rkV T r kind (ix T age) n.toNat m j.toNat)) := by
  (have hv' := hv; obtain ⟨A, c, rfl, hc, hm, hbig, hI⟩ := hv; have ht : TabAt w T (.agg #[.int .i64 T.first, .slice A T.n c]) := ⟨A, c, rfl, hc, hm, hbig, hI⟩)
  by_cases hz : resC T r kind age n m ld j = 0
  case neg =>
    have e : rkC T r kind age n m ld j = resC T r kind age n m ld j := by unfold rkC; rw [if_neg hz]
    have HC := i_ChkRB (m := m) (ld := ld) (j := j) rfl hz
    rw [e, RetQ_bad hz]
    unfold rp0 at HC
    replace HC := Lib.hid HC
    (have hz1 : ((resC T r kind age n m ld j) != 0) = true := (by simpa using hz)); (have hz2 : ((resC T r kind age n m ld j) == 0) = false := (by simpa using hz))
    clear hz e
    generalize resC T r kind age n m ld j = K at *
    go_enter Try.func94, Try.ntmps94
    go_wp2_with (first | (go_at_call 217; (with_reducible refine (HC.out _ _ (hv'.up (by repeat' (first | (with_reducible exact Up.refl _) | (with_reducible assumption) | (with_reducible refine Up.alloc ?_ _) | (with_reducible refine Up.drew ?_) | (with_reducible refine Up.grow ?_ _) | (with_reducible refine Up.setCell ?_ (by (try simp); (try omega)) _))))).mono ?_); rintro e w' ⟨rfl, hb⟩; first | (obtain ⟨x, rfl⟩ := Grow.on x hb) | (obtain ⟨x, rfl⟩ := Grow.mk' hb)) | (go_at_call 218; (with_reducible refine (s_In _ _ _ _).mono ?_); rintro e w' ⟨rfl, rfl⟩) | (go_at_call 227; (with_reducible refine (i_In _ _ _ _).mono ?_); rintro e w' ⟨rfl, rfl⟩) | (go_at_call 287; (with_reducible refine (s_Rate _ _).mono ?_); rintro e w' ⟨rfl, rfl⟩) | (go_at_call 248; (with_reducible refine (i_Rate _ _).mono ?_); rintro e w' ⟨rfl, rfl⟩) | (go_at_call 323; (with_reducible refine (i_Years _ _).mono ?_); rintro e w' ⟨rfl, rfl⟩) | (go_at_call 292; (with_reducible refine (s_Amount6 _ _).mono ?_); rintro e w' ⟨rfl, rfl⟩) | (go_at_call 226; (with_reducible refine (s_Sum7 _ _).mono ?_); rintro e w' ⟨rfl, rfl⟩) | ((first | with_reducible refine wp_region_in x (by kernel_rfl) (by kernel_rfl) ?_ | with_reducible refine wp_region_here (by kernel_rfl) (by kernel_rfl) ?_); (repeat (go_big_quiet_step ((first | (go_at_call 217; with_reducible exact Ret.grow _ (HC.out _ _ (hv'.up (by repeat' (first | (with_reducible exact Up.refl _) | (with_reducible assumption) | (with_reducible refine Up.alloc ?_ _) | (with_reducible refine Up.drew ?_) | (with_reducible refine Up.grow ?_ _) | (with_reducible refine Up.setCell ?_ (by (try simp); (try omega)) _)))))) | (go_at_call 218; with_reducible exact Ret.same _ (s_In _ _ _ _)) | (go_at_call 227; with_reducible exact Ret.same _ (i_In _ _ _ _)) | (go_at_call 287; with_reducible exact Ret.same _ (s_Rate _ _)) | (go_at_call 248; with_reducible exact Ret.same _ (i_Rate _ _)) | (go_at_call 323; with_reducible exact Ret.same _ (i_Years _ _)) | (go_at_call 292; with_reducible exact Ret.same _ (s_Amount6 _ _)) | (go_at_call 226; with_reducible exact Ret.same _ (s_Sum7 _ _)))))); refine wpQuiet_nil ?_; intro w' hw'; obtain ⟨x, rfl⟩ := hw'))
    go_ret2
    exact ⟨rfl, (by repeat' (first | (with_reducible exact Up.refl _) | (with_reducible assumption) | (with_reducible refine Up.alloc ?_ _) | (with_reducible refine Up.drew ?_) | (with_reducible refine Up.grow ?_ _) | (with_reducible refine Up.setCell ?_ (by (try simp); (try omega)) _)))⟩
  obtain ⟨k, n, j, rfl, rfl, rfl, hk, hj, hd⟩ := resC_ok hz
  have HC := Lib.hid (i_ChkRK hz)
  have HL := i_RList hk
  have db := hk.dur_bd
  have m1 := hk.m1; have m2 := hk.m2
  have e0 : rkC T r kind (T.first + k) n m ld j = if j + 1 < T.dur kind k n then (if T.D r (k + (j + 1)) = 0 then 5 else 0) else 0 := by
    unfold rkC; rw [if_pos hz, ix_k, Int.toNat_natCast, Int.toNat_natCast]
    by_cases h : j + 1 < T.dur kind k n
    · rw [if_pos (by omega), if_pos h]
    · rw [if_neg (by omega), if_neg h]
  have hrg : ∀ i, -1 ≤ T.rg r kind k n m i ∧ T.rg r kind k n m i ≤ 20000000001 ∧ (T.rg r kind k n m i < 0 ↔ T.D r (k + i) = 0) := fun i => hk.rg_bd i
  have hres : ¬ T.D r (k + (j + 1)) = 0 → T.rg r kind k n m (j + 1) = T.res r kind k n m (j + 1) := fun h => hk.rg_ok h
  unfold rkV
  simp only [ix_k, Int.toNat_natCast]
  rw [e0]
  generalize wh T r k (T.dur kind k n) = WB at *
  generalize T.top r kind (k + j) (n - j) = N at *
  generalize T.base r kind (k + j) (n - j) = B at *
  generalize T.D r (k + j) = D at *
  generalize T.dur kind k n = U at *
  replace HL := Lib.hid HL
  have i1 : IntKind.i64.wrap ((j : Int) + 1) = j + 1 := IntWalk.i64_in _ (by omega)
  have i0 : IntKind.i64.wrap ((U : Int) - 1) = U - 1 := IntWalk.i64_in _ (by omega)
  have hU1 : 0 < U := by omega
  clear hz hk hd e0
  by_cases hl : j + 1 < U
  · have hne1 : ((j : Int) == (U : Int) - 1) = false := by simp; omega
    have g1 : (0 : Int) ≤ (j : Int) + 1 := by omega
    have g2 : (j : Int) + 1 < (U : Int) := by omega
    have g3 : ((j : Int) + 1).toNat = j + 1 := by omega
    have hb := hrg (j + 1)
    rw [if_pos hl, if_pos hl]
    have hne : ¬ (kind = 2 ∧ j + 1 = U) := by omega
    by_cases hD : T.D r (k + (j + 1)) = 0
    · have hneg := hb.2.2.2 hD
      rw [if_pos hD, RetQ_bad (by omega)]
      generalize T.rg r kind k n m = G at *
      by_cases h3 : kind = 3
      · subst h3
        go_enter Try.func94, Try.ntmps94
        go_wp2_with (first | (go_at_call 209; ((with_reducible refine (HL.out _ _ (hv'.up (by repeat' (first | (with_reducible exact Up.refl _) | (with_reducible assumption) | (with_reducible refine Up.alloc ?_ _) | (with_reducible refine Up.drew ?_) | (with_reducible refine Up.grow ?_ _) | (with_reducible refine Up.setCell ?_ (by (try simp); (try omega)) _))))).mono ?_); rintro e w5 ⟨vl, rfl, hb5, hown⟩; obtain ⟨g, c5, rfl, k1, k2, k3, hcell⟩ := hown.fn hU1; have c1 := hcell (j + 1) hl; clear hown hcell; first | (obtain ⟨x, rfl⟩ := Grow.on x hb5) | (obtain ⟨x, rfl⟩ := Grow.mk' hb5))) | (go_at_call 217; (with_reducible refine (HC.out _ _ (hv'.up (by repeat' (first | (with_reducible exact Up.refl _) | (with_reducible assumption) | (with_reducible refine Up.alloc ?_ _) | (with_reducible refine Up.drew ?_) | (with_reducible refine Up.grow ?_ _) | (with_reducible refine Up.setCell ?_ (by (try simp); (try omega)) _))))).mono ?_); rintro e w' ⟨rfl, hb⟩; first | (obtain ⟨x, rfl⟩ := Grow.on x hb) | (obtain ⟨x, rfl⟩ := Grow.mk' hb)) | (go_at_call 211; (with_reducible refine (i_Length _ _ _ (by omega) _).mono ?_); rintro e w' ⟨rfl, rfl⟩) | (go_at_call 218; (with_reducible refine (s_In _ _ _ _).mono ?_); rintro e w' ⟨rfl, rfl⟩) | (go_at_call 227; (with_reducible refine (i_In _ _ _ _).mono ?_); rintro e w' ⟨rfl, rfl⟩) | (go_at_call 287; (with_reducible refine (s_Rate _ _).mono ?_); rintro e w' ⟨rfl, rfl⟩) | (go_at_call 248; (with_reducible refine (i_Rate _ _).mono ?_); rintro e w' ⟨rfl, rfl⟩) | (go_at_call 323; (with_reducible refine (i_Years _ _).mono ?_); rintro e w' ⟨rfl, rfl⟩) | (go_at_call 292; (with_reducible refine (s_Amount6 _ _).mono ?_); rintro e w' ⟨rfl, rfl⟩) | (go_at_call 226; (with_reducible refine (s_Sum7 _ _).mono ?_); rintro e w' ⟨rfl, rfl⟩) | ((first | with_reducible refine wp_region_in x (by kernel_rfl) (by kernel_rfl) ?_ | with_reducible refine wp_region_here (by kernel_rfl) (by kernel_rfl) ?_); (repeat (go_big_quiet_step ((first | (go_at_call 217; with_reducible exact Ret.grow _ (HC.out _ _ (hv'.up (by repeat' (first | (with_reducible exact Up.refl _) | (with_reducible assumption) | (with_reducible refine Up.alloc ?_ _) | (with_reducible refine Up.drew ?_) | (with_reducible refine Up.grow ?_ _) | (with_reducible refine Up.setCell ?_ (by (try simp); (try omega)) _)))))) | (go_at_call 211; with_reducible exact Ret.same _ (i_Length _ _ _ (by omega) _)) | (go_at_call 218; with_reducible exact Ret.same _ (s_In _ _ _ _)) | (go_at_call 227; with_reducible exact Ret.same _ (i_In _ _ _ _)) | (go_at_call 287; with_reducible exact Ret.same _ (s_Rate _ _)) | (go_at_call 248; with_reducible exact Ret.same _ (i_Rate _ _)) | (go_at_call 323; with_reducible exact Ret.same _ (i_Years _ _)) | (go_at_call 292; with_reducible exact Ret.same _ (s_Amount6 _ _)) | (go_at_call 226; with_reducible exact Ret.same _ (s_Sum7 _ _)))))); refine wpQuiet_nil ?_; intro w' hw'; obtain ⟨x, rfl⟩ := hw'))
        go_ret2
        exact ⟨rfl, (by repeat' (first | (with_reducible exact Up.refl _) | (with_reducible assumption) | (with_reducible refine Up.alloc ?_ _) | (with_reducible refine Up.drew ?_) | (with_reducible refine Up.grow ?_ _) | (with_reducible refine Up.setCell ?_ (by (try simp); (try omega)) _)))⟩
      · have h31 : (kind == 3) = false := by simpa using h3
        clear h3
        go_enter Try.func94, Try.ntmps94
        go_wp2_with (first | (go_at_call 209; ((with_reducible refine (HL.out _ _ (hv'.up (by repeat' (first | (with_reducible exact Up.refl _) | (with_reducible assumption) | (with_reducible refine Up.alloc ?_ _) | (with_reducible refine Up.drew ?_) | (with_reducible refine Up.grow ?_ _) | (with_reducible refine Up.setCell ?_ (by (try simp); (try omega)) _))))).mono ?_); rintro e w5 ⟨vl, rfl, hb5, hown⟩; obtain ⟨g, c5, rfl, k1, k2, k3, hcell⟩ := hown.fn hU1; have c1 := hcell (j + 1) hl; clear hown hcell; first | (obtain ⟨x, rfl⟩ := Grow.on x hb5) | (obtain ⟨x, rfl⟩ := Grow.mk' hb5))) | (go_at_call 217; (with_reducible refine (HC.out _ _ (hv'.up (by repeat' (first | (with_reducible exact Up.refl _) | (with_reducible assumption) | (with_reducible refine Up.alloc ?_ _) | (with_reducible refine Up.drew ?_) | (with_reducible refine Up.grow ?_ _) | (with_reducible refine Up.setCell ?_ (by (try simp); (try omega)) _))))).mono ?_); rintro e w' ⟨rfl, hb⟩; first | (obtain ⟨x, rfl⟩ := Grow.on x hb) | (obtain ⟨x, rfl⟩ := Grow.mk' hb)) | (go_at_call 211; (with_reducible refine (i_Length _ _ _ (by omega) _).mono ?_); rintro e w' ⟨rfl, rfl⟩) | (go_at_call 218; (with_reducible refine (s_In _ _ _ _).mono ?_); rintro e w' ⟨rfl, rfl⟩) | (go_at_call 227; (with_reducible refine (i_In _ _ _ _).mono ?_); rintro e w' ⟨rfl, rfl⟩) | (go_at_call 287; (with_reducible refine (s_Rate _ _).mono ?_); rintro e w' ⟨rfl, rfl⟩) | (go_at_call 248; (with_reducible refine (i_Rate _ _).mono ?_); rintro e w' ⟨rfl, rfl⟩) | (go_at_call 323; (with_reducible refine (i_Years _ _).mono ?_); rintro e w' ⟨rfl, rfl⟩) | (go_at_call 292; (with_reducible refine (s_Amount6 _ _).mono ?_); rintro e w' ⟨rfl, rfl⟩) | (go_at_call 226; (with_reducible refine (s_Sum7 _ _).mono ?_); rintro e w' ⟨rfl, rfl⟩) | ((first | with_reducible refine wp_region_in x (by kernel_rfl) (by kernel_rfl) ?_ | with_reducible refine wp_region_here (by kernel_rfl) (by kernel_rfl) ?_); (repeat (go_big_quiet_step ((first | (go_at_call 217; with_reducible exact Ret.grow _ (HC.out _ _ (hv'.up (by repeat' (first | (with_reducible exact Up.refl _) | (with_reducible assumption) | (with_reducible refine Up.alloc ?_ _) | (with_reducible refine Up.drew ?_) | (with_reducible refine Up.grow ?_ _) | (with_reducible refine Up.setCell ?_ (by (try simp); (try omega)) _)))))) | (go_at_call 211; with_reducible exact Ret.same _ (i_Length _ _ _ (by omega) _)) | (go_at_call 218; with_reducible exact Ret.same _ (s_In _ _ _ _)) | (go_at_call 227; with_reducible exact Ret.same _ (i_In _ _ _ _)) | (go_at_call 287; with_reducible exact Ret.same _ (s_Rate _ _)) | (go_at_call 248; with_reducible exact Ret.same _ (i_Rate _ _)) | (go_at_call 323; with_reducible exact Ret.same _ (i_Years _ _)) | (go_at_call 292; with_reducible exact Ret.same _ (s_Amount6 _ _)) | (go_at_call 226; with_reducible exact Ret.same _ (s_Sum7 _ _)))))); refine wpQuiet_nil ?_; intro w' hw'; obtain ⟨x, rfl⟩ := hw'))
        go_ret2
        exact ⟨rfl, (by repeat' (first | (with_reducible exact Up.refl _) | (with_reducible assumption) | (with_reducible refine Up.alloc ?_ _) | (with_reducible refine Up.drew ?_) | (with_reducible refine Up.grow ?_ _) | (with_reducible refine Up.setCell ?_ (by (try simp); (try omega)) _)))⟩
    · have hpos : ¬ T.rg r kind k n m (j + 1) < 0 := fun h => hD (hb.2.2.1 h)
      rw [if_neg hD, RetQ_ok, ← hres hD]
      generalize T.rg r kind k n m = G at *
      have i3 : IntKind.i64.wrap (m - G (j + 1)) = m - G (j + 1) := IntWalk.i64_in _ (by omega)
      have i5 : IntKind.i64.wrap (-G (j + 1)) = -G (j + 1) := IntWalk.i64_in _ (by omega)
      clear hres
      by_cases h3 : kind = 3
      · subst h3
        rw [if_pos (Or.inl rfl), show (0 : Int) - G (j + 1) = -G (j + 1) from by omega]
        go_enter Try.func94, Try.ntmps94
        go_wp2_with (first | (go_at_call 209; ((with_reducible refine (HL.out _ _ (hv'.up (by repeat' (first | (with_reducible exact Up.refl _) | (with_reducible assumption) | (with_reducible refine Up.alloc ?_ _) | (with_reducible refine Up.drew ?_) | (with_reducible refine Up.grow ?_ _) | (with_reducible refine Up.setCell ?_ (by (try simp); (try omega)) _))))).mono ?_); rintro e w5 ⟨vl, rfl, hb5, hown⟩; obtain ⟨g, c5, rfl, k1, k2, k3, hcell⟩ := hown.fn hU1; have c1 := hcell (j + 1) hl; clear hown hcell; first | (obtain ⟨x, rfl⟩ := Grow.on x hb5) | (obtain ⟨x, rfl⟩ := Grow.mk' hb5))) | (go_at_call 217; (with_reducible refine (HC.out _ _ (hv'.up (by repeat' (first | (with_reducible exact Up.refl _) | (with_reducible assumption) | (with_reducible refine Up.alloc ?_ _) | (with_reducible refine Up.drew ?_) | (with_reducible refine Up.grow ?_ _) | (with_reducible refine Up.setCell ?_ (by (try simp); (try omega)) _))))).mono ?_); rintro e w' ⟨rfl, hb⟩; first | (obtain ⟨x, rfl⟩ := Grow.on x hb) | (obtain ⟨x, rfl⟩ := Grow.mk' hb)) | (go_at_call 211; (with_reducible refine (i_Length _ _ _ (by omega) _).mono ?_); rintro e w' ⟨rfl, rfl⟩) | (go_at_call 218; (with_reducible refine (s_In _ _ _ _).mono ?_); rintro e w' ⟨rfl, rfl⟩) | (go_at_call 227; (with_reducible refine (i_In _ _ _ _).mono ?_); rintro e w' ⟨rfl, rfl⟩) | (go_at_call 287; (with_reducible refine (s_Rate _ _).mono ?_); rintro e w' ⟨rfl, rfl⟩) | (go_at_call 248; (with_reducible refine (i_Rate _ _).mono ?_); rintro e w' ⟨rfl, rfl⟩) | (go_at_call 323; (with_reducible refine (i_Years _ _).mono ?_); rintro e w' ⟨rfl, rfl⟩) | (go_at_call 292; (with_reducible refine (s_Amount6 _ _).mono ?_); rintro e w' ⟨rfl, rfl⟩) | (go_at_call 226; (with_reducible refine (s_Sum7 _ _).mono ?_); rintro e w' ⟨rfl, rfl⟩) | ((first | with_reducible refine wp_region_in x (by kernel_rfl) (by kernel_rfl) ?_ | with_reducible refine wp_region_here (by kernel_rfl) (by kernel_rfl) ?_); (repeat (go_big_quiet_step ((first | (go_at_call 217; with_reducible exact Ret.grow _ (HC.out _ _ (hv'.up (by repeat' (first | (with_reducible exact Up.refl _) | (with_reducible assumption) | (with_reducible refine Up.alloc ?_ _) | (with_reducible refine Up.drew ?_) | (with_reducible refine Up.grow ?_ _) | (with_reducible refine Up.setCell ?_ (by (try simp); (try omega)) _)))))) | (go_at_call 211; with_reducible exact Ret.same _ (i_Length _ _ _ (by omega) _)) | (go_at_call 218; with_reducible exact Ret.same _ (s_In _ _ _ _)) | (go_at_call 227; with_reducible exact Ret.same _ (i_In _ _ _ _)) | (go_at_call 287; with_reducible exact Ret.same _ (s_Rate _ _)) | (go_at_call 248; with_reducible exact Ret.same _ (i_Rate _ _)) | (go_at_call 323; with_reducible exact Ret.same _ (i_Years _ _)) | (go_at_call 292; with_reducible exact Ret.same _ (s_Amount6 _ _)) | (go_at_call 226; with_reducible exact Ret.same _ (s_Sum7 _ _)))))); refine wpQuiet_nil ?_; intro w' hw'; obtain ⟨x, rfl⟩ := hw'))
        go_ret2
        exact ⟨rfl, (by repeat' (first | (with_reducible exact Up.refl _) | (with_reducible assumption) | (with_reducible refine Up.alloc ?_ _) | (with_reducible refine Up.drew ?_) | (with_reducible refine Up.grow ?_ _) | (with_reducible refine Up.setCell ?_ (by (try simp); (try omega)) _)))⟩
      · rw [if_neg (by rintro (h | h); exact h3 h; exact hne h)]
        have h31 : (kind == 3) = false := by simpa using h3
        clear h3
        go_enter Try.func94, Try.ntmps94
        go_wp2_with (first | (go_at_call 209; ((with_reducible refine (HL.out _ _ (hv'.up (by repeat' (first | (with_reducible exact Up.refl _) | (with_reducible assumption) | (with_reducible refine Up.alloc ?_ _) | (with_reducible refine Up.drew ?_) | (with_reducible refine Up.grow ?_ _) | (with_reducible refine Up.setCell ?_ (by (try simp); (try omega)) _))))).mono ?_); rintro e w5 ⟨vl, rfl, hb5, hown⟩; obtain ⟨g, c5, rfl, k1, k2, k3, hcell⟩ := hown.fn hU1; have c1 := hcell (j + 1) hl; clear hown hcell; first | (obtain ⟨x, rfl⟩ := Grow.on x hb5) | (obtain ⟨x, rfl⟩ := Grow.mk' hb5))) | (go_at_call 217; (with_reducible refine (HC.out _ _ (hv'.up (by repeat' (first | (with_reducible exact Up.refl _) | (with_reducible assumption) | (with_reducible refine Up.alloc ?_ _) | (with_reducible refine Up.drew ?_) | (with_reducible refine Up.grow ?_ _) | (with_reducible refine Up.setCell ?_ (by (try simp); (try omega)) _))))).mono ?_); rintro e w' ⟨rfl, hb⟩; first | (obtain ⟨x, rfl⟩ := Grow.on x hb) | (obtain ⟨x, rfl⟩ := Grow.mk' hb)) | (go_at_call 211; (with_reducible refine (i_Length _ _ _ (by omega) _).mono ?_); rintro e w' ⟨rfl, rfl⟩) | (go_at_call 218; (with_reducible refine (s_In _ _ _ _).mono ?_); rintro e w' ⟨rfl, rfl⟩) | (go_at_call 227; (with_reducible refine (i_In _ _ _ _).mono ?_); rintro e w' ⟨rfl, rfl⟩) | (go_at_call 287; (with_reducible refine (s_Rate _ _).mono ?_); rintro e w' ⟨rfl, rfl⟩) | (go_at_call 248; (with_reducible refine (i_Rate _ _).mono ?_); rintro e w' ⟨rfl, rfl⟩) | (go_at_call 323; (with_reducible refine (i_Years _ _).mono ?_); rintro e w' ⟨rfl, rfl⟩) | (go_at_call 292; (with_reducible refine (s_Amount6 _ _).mono ?_); rintro e w' ⟨rfl, rfl⟩) | (go_at_call 226; (with_reducible refine (s_Sum7 _ _).mono ?_); rintro e w' ⟨rfl, rfl⟩) | ((first | with_reducible refine wp_region_in x (by kernel_rfl) (by kernel_rfl) ?_ | with_reducible refine wp_region_here (by kernel_rfl) (by kernel_rfl) ?_); (repeat (go_big_quiet_step ((first | (go_at_call 217; with_reducible exact Ret.grow _ (HC.out _ _ (hv'.up (by repeat' (first | (with_reducible exact Up.refl _) | (with_reducible assumption) | (with_reducible refine Up.alloc ?_ _) | (with_reducible refine Up.drew ?_) | (with_reducible refine Up.grow ?_ _) | (with_reducible refine Up.setCell ?_ (by (try simp); (try omega)) _)))))) | (go_at_call 211; with_reducible exact Ret.same _ (i_Length _ _ _ (by omega) _)) | (go_at_call 218; with_reducible exact Ret.same _ (s_In _ _ _ _)) | (go_at_call 227; with_reducible exact Ret.same _ (i_In _ _ _ _)) | (go_at_call 287; with_reducible exact Ret.same _ (s_Rate _ _)) | (go_at_call 248; with_reducible exact Ret.same _ (i_Rate _ _)) | (go_at_call 323; with_reducible exact Ret.same _ (i_Years _ _)) | (go_at_call 292; with_reducible exact Ret.same _ (s_Amount6 _ _)) | (go_at_call 226; with_reducible exact Ret.same _ (s_Sum7 _ _)))))); refine wpQuiet_nil ?_; intro w' hw'; obtain ⟨x, rfl⟩ := hw'))
        go_ret2
        exact ⟨rfl, (by repeat' (first | (with_reducible exact Up.refl _) | (with_reducible assumption) | (with_reducible refine Up.alloc ?_ _) | (with_reducible refine Up.drew ?_) | (with_reducible refine Up.grow ?_ _) | (with_reducible refine Up.setCell ?_ (by (try simp); (try omega)) _)))⟩
  · have he : j + 1 = U := by omega
    have he1 : ((j : Int) == (U : Int) - 1) = true := by simp; omega
    rw [if_neg hl, if_neg hl, Int.sub_zero, RetQ_ok]
    generalize T.rg r kind k n m = G at *
    clear hres
    by_cases h3 : kind = 3
    · subst h3
      rw [if_pos (Or.inl rfl)]
      go_enter Try.func94, Try.ntmps94
      go_wp2_with (first | (go_at_call 209; ((with_reducible refine (HL.out _ _ (hv'.up (by repeat' (first | (with_reducible exact Up.refl _) | (with_reducible assumption) | (with_reducible refine Up.alloc ?_ _) | (with_reducible refine Up.drew ?_) | (with_reducible refine Up.grow ?_ _) | (with_reducible refine Up.setCell ?_ (by (try simp); (try omega)) _))))).mono ?_); rintro e w5 ⟨vl, rfl, hb5, hown⟩; obtain ⟨g, c5, rfl, k1, k2, k3, hcell⟩ := hown.fn hU1; clear hown hcell; first | (obtain ⟨x, rfl⟩ := Grow.on x hb5) | (obtain ⟨x, rfl⟩ := Grow.mk' hb5))) | (go_at_call 217; (with_reducible refine (HC.out _ _ (hv'.up (by repeat' (first | (with_reducible exact Up.refl _) | (with_reducible assumption) | (with_reducible refine Up.alloc ?_ _) | (with_reducible refine Up.drew ?_) | (with_reducible refine Up.grow ?_ _) | (with_reducible refine Up.setCell ?_ (by (try simp); (try omega)) _))))).mono ?_); rintro e w' ⟨rfl, hb⟩; first | (obtain ⟨x, rfl⟩ := Grow.on x hb) | (obtain ⟨x, rfl⟩ := Grow.mk' hb)) | (go_at_call 211; (with_reducible refine (i_Length _ _ _ (by omega) _).mono ?_); rintro e w' ⟨rfl, rfl⟩) | (go_at_call 218; (with_reducible refine (s_In _ _ _ _).mono ?_); rintro e w' ⟨rfl, rfl⟩) | (go_at_call 227; (with_reducible refine (i_In _ _ _ _).mono ?_); rintro e w' ⟨rfl, rfl⟩) | (go_at_call 287; (with_reducible refine (s_Rate _ _).mono ?_); rintro e w' ⟨rfl, rfl⟩) | (go_at_call 248; (with_reducible refine (i_Rate _ _).mono ?_); rintro e w' ⟨rfl, rfl⟩) | (go_at_call 323; (with_reducible refine (i_Years _ _).mono ?_); rintro e w' ⟨rfl, rfl⟩) | (go_at_call 292; (with_reducible refine (s_Amount6 _ _).mono ?_); rintro e w' ⟨rfl, rfl⟩) | (go_at_call 226; (with_reducible refine (s_Sum7 _ _).mono ?_); rintro e w' ⟨rfl, rfl⟩) | ((first | with_reducible refine wp_region_in x (by kernel_rfl) (by kernel_rfl) ?_ | with_reducible refine wp_region_here (by kernel_rfl) (by kernel_rfl) ?_); (repeat (go_big_quiet_step ((first | (go_at_call 217; with_reducible exact Ret.grow _ (HC.out _ _ (hv'.up (by repeat' (first | (with_reducible exact Up.refl _) | (with_reducible assumption) | (with_reducible refine Up.alloc ?_ _) | (with_reducible refine Up.drew ?_) | (with_reducible refine Up.grow ?_ _) | (with_reducible refine Up.setCell ?_ (by (try simp); (try omega)) _)))))) | (go_at_call 211; with_reducible exact Ret.same _ (i_Length _ _ _ (by omega) _)) | (go_at_call 218; with_reducible exact Ret.same _ (s_In _ _ _ _)) | (go_at_call 227; with_reducible exact Ret.same _ (i_In _ _ _ _)) | (go_at_call 287; with_reducible exact Ret.same _ (s_Rate _ _)) | (go_at_call 248; with_reducible exact Ret.same _ (i_Rate _ _)) | (go_at_call 323; with_reducible exact Ret.same _ (i_Years _ _)) | (go_at_call 292; with_reducible exact Ret.same _ (s_Amount6 _ _)) | (go_at_call 226; with_reducible exact Ret.same _ (s_Sum7 _ _)))))); refine wpQuiet_nil ?_; intro w' hw'; obtain ⟨x, rfl⟩ := hw'))
      go_ret2
      exact ⟨rfl, (by repeat' (first | (with_reducible exact Up.refl _) | (with_reducible assumption) | (with_reducible refine Up.alloc ?_ _) | (with_reducible refine Up.drew ?_) | (with_reducible refine Up.grow ?_ _) | (with_reducible refine Up.setCell ?_ (by (try simp); (try omega)) _)))⟩
    · have h31 : (kind == 3) = false := by simpa using h3
      by_cases h2 : kind = 2
      · subst h2
        rw [if_pos (Or.inr ⟨rfl, he⟩)]
        clear h3
        go_enter Try.func94, Try.ntmps94
        go_wp2_with (first | (go_at_call 209; ((with_reducible refine (HL.out _ _ (hv'.up (by repeat' (first | (with_reducible exact Up.refl _) | (with_reducible assumption) | (with_reducible refine Up.alloc ?_ _) | (with_reducible refine Up.drew ?_) | (with_reducible refine Up.grow ?_ _) | (with_reducible refine Up.setCell ?_ (by (try simp); (try omega)) _))))).mono ?_); rintro e w5 ⟨vl, rfl, hb5, hown⟩; obtain ⟨g, c5, rfl, k1, k2, k3, hcell⟩ := hown.fn hU1; clear hown hcell; first | (obtain ⟨x, rfl⟩ := Grow.on x hb5) | (obtain ⟨x, rfl⟩ := Grow.mk' hb5))) | (go_at_call 217; (with_reducible refine (HC.out _ _ (hv'.up (by repeat' (first | (with_reducible exact Up.refl _) | (with_reducible assumption) | (with_reducible refine Up.alloc ?_ _) | (with_reducible refine Up.drew ?_) | (with_reducible refine Up.grow ?_ _) | (with_reducible refine Up.setCell ?_ (by (try simp); (try omega)) _))))).mono ?_); rintro e w' ⟨rfl, hb⟩; first | (obtain ⟨x, rfl⟩ := Grow.on x hb) | (obtain ⟨x, rfl⟩ := Grow.mk' hb)) | (go_at_call 211; (with_reducible refine (i_Length _ _ _ (by omega) _).mono ?_); rintro e w' ⟨rfl, rfl⟩) | (go_at_call 218; (with_reducible refine (s_In _ _ _ _).mono ?_); rintro e w' ⟨rfl, rfl⟩) | (go_at_call 227; (with_reducible refine (i_In _ _ _ _).mono ?_); rintro e w' ⟨rfl, rfl⟩) | (go_at_call 287; (with_reducible refine (s_Rate _ _).mono ?_); rintro e w' ⟨rfl, rfl⟩) | (go_at_call 248; (with_reducible refine (i_Rate _ _).mono ?_); rintro e w' ⟨rfl, rfl⟩) | (go_at_call 323; (with_reducible refine (i_Years _ _).mono ?_); rintro e w' ⟨rfl, rfl⟩) | (go_at_call 292; (with_reducible refine (s_Amount6 _ _).mono ?_); rintro e w' ⟨rfl, rfl⟩) | (go_at_call 226; (with_reducible refine (s_Sum7 _ _).mono ?_); rintro e w' ⟨rfl, rfl⟩) | ((first | with_reducible refine wp_region_in x (by kernel_rfl) (by kernel_rfl) ?_ | with_reducible refine wp_region_here (by kernel_rfl) (by kernel_rfl) ?_); (repeat (go_big_quiet_step ((first | (go_at_call 217; with_reducible exact Ret.grow _ (HC.out _ _ (hv'.up (by repeat' (first | (with_reducible exact Up.refl _) | (with_reducible assumption) | (with_reducible refine Up.alloc ?_ _) | (with_reducible refine Up.drew ?_) | (with_reducible refine Up.grow ?_ _) | (with_reducible refine Up.setCell ?_ (by (try simp); (try omega)) _)))))) | (go_at_call 211; with_reducible exact Ret.same _ (i_Length _ _ _ (by omega) _)) | (go_at_call 218; with_reducible exact Ret.same _ (s_In _ _ _ _)) | (go_at_call 227; with_reducible exact Ret.same _ (i_In _ _ _ _)) | (go_at_call 287; with_reducible exact Ret.same _ (s_Rate _ _)) | (go_at_call 248; with_reducible exact Ret.same _ (i_Rate _ _)) | (go_at_call 323; with_reducible exact Ret.same _ (i_Years _ _)) | (go_at_call 292; with_reducible exact Ret.same _ (s_Amount6 _ _)) | (go_at_call 226; with_reducible exact Ret.same _ (s_Sum7 _ _)))))); refine wpQuiet_nil ?_; intro w' hw'; obtain ⟨x, rfl⟩ := hw'))
        go_ret2
        exact ⟨rfl, (by repeat' (first | (with_reducible exact Up.refl _) | (with_reducible assumption) | (with_reducible refine Up.alloc ?_ _) | (with_reducible refine Up.drew ?_) | (with_reducible refine Up.grow ?_ _) | (with_reducible refine Up.setCell ?_ (by (try simp); (try omega)) _)))⟩
      · rw [if_neg (by rintro (h | h); exact h3 h; exact h2 h.1)]
        have h21 : (kind == 2) = false := by simpa using h2
        clear h2 h3
        go_enter Try.func94, Try.ntmps94
        go_wp2_with (first | (go_at_call 209; ((with_reducible refine (HL.out _ _ (hv'.up (by repeat' (first | (with_reducible exact Up.refl _) | (with_reducible assumption) | (with_reducible refine Up.alloc ?_ _) | (with_reducible refine Up.drew ?_) | (with_reducible refine Up.grow ?_ _) | (with_reducible refine Up.setCell ?_ (by (try simp); (try omega)) _))))).mono ?_); rintro e w5 ⟨vl, rfl, hb5, hown⟩; obtain ⟨g, c5, rfl, k1, k2, k3, hcell⟩ := hown.fn hU1; clear hown hcell; first | (obtain ⟨x, rfl⟩ := Grow.on x hb5) | (obtain ⟨x, rfl⟩ := Grow.mk' hb5))) | (go_at_call 217; (with_reducible refine (HC.out _ _ (hv'.up (by repeat' (first | (with_reducible exact Up.refl _) | (with_reducible assumption) | (with_reducible refine Up.alloc ?_ _) | (with_reducible refine Up.drew ?_) | (with_reducible refine Up.grow ?_ _) | (with_reducible refine Up.setCell ?_ (by (try simp); (try omega)) _))))).mono ?_); rintro e w' ⟨rfl, hb⟩; first | (obtain ⟨x, rfl⟩ := Grow.on x hb) | (obtain ⟨x, rfl⟩ := Grow.mk' hb)) | (go_at_call 211; (with_reducible refine (i_Length _ _ _ (by omega) _).mono ?_); rintro e w' ⟨rfl, rfl⟩) | (go_at_call 218; (with_reducible refine (s_In _ _ _ _).mono ?_); rintro e w' ⟨rfl, rfl⟩) | (go_at_call 227; (with_reducible refine (i_In _ _ _ _).mono ?_); rintro e w' ⟨rfl, rfl⟩) | (go_at_call 287; (with_reducible refine (s_Rate _ _).mono ?_); rintro e w' ⟨rfl, rfl⟩) | (go_at_call 248; (with_reducible refine (i_Rate _ _).mono ?_); rintro e w' ⟨rfl, rfl⟩) | (go_at_call 323; (with_reducible refine (i_Years _ _).mono ?_); rintro e w' ⟨rfl, rfl⟩) | (go_at_call 292; (with_reducible refine (s_Amount6 _ _).mono ?_); rintro e w' ⟨rfl, rfl⟩) | (go_at_call 226; (with_reducible refine (s_Sum7 _ _).mono ?_); rintro e w' ⟨rfl, rfl⟩) | ((first | with_reducible refine wp_region_in x (by kernel_rfl) (by kernel_rfl) ?_ | with_reducible refine wp_region_here (by kernel_rfl) (by kernel_rfl) ?_); (repeat (go_big_quiet_step ((first | (go_at_call 217; with_reducible exact Ret.grow _ (HC.out _ _ (hv'.up (by repeat' (first | (with_reducible exact Up.refl _) | (with_reducible assumption) | (with_reducible refine Up.alloc ?_ _) | (with_reducible refine Up.drew ?_) | (with_reducible refine Up.grow ?_ _) | (with_reducible refine Up.setCell ?_ (by (try simp); (try omega)) _)))))) | (go_at_call 211; with_reducible exact Ret.same _ (i_Length _ _ _ (by omega) _)) | (go_at_call 218; with_reducible exact Ret.same _ (s_In _ _ _ _)) | (go_at_call 227; with_reducible exact Ret.same _ (i_In _ _ _ _)) | (go_at_call 287; with_reducible exact Ret.same _ (s_Rate _ _)) | (go_at_call 248; with_reducible exact Ret.same _ (i_Rate _ _)) | (go_at_call 323; with_reducible exact Ret.same _ (i_Years _ _)) | (go_at_call 292; with_reducible exact Ret.same _ (s_Amount6 _ _)) | (go_at_call 226; with_reducible exact Ret.same _ (s_Sum7 _ _)))))); refine wpQuiet_nil ?_; intro w' hw'; obtain ⟨x, rfl⟩ := hw'))
        go_ret2
        exact ⟨rfl, (by repeat' (first | (with_reducible exact Up.refl _) | (with_reducible assumption) | (with_reducible refine Up.alloc ?_ _) | (with_reducible refine Up.drew ?_) | (with_reducible refine Up.grow ?_ _) | (with_reducible refine Up.setCell ?_ (by (try simp); (try omega)) _)))⟩
set_option maxRecDepth 100000 in
set_option maxHeartbeats 4000000 in
theorem i_BestLeaving (T : Tab) (r kind age n m ld : Int) (v : Value) (w : World) (hv : BasAt w T r v) :
    Calls Try.prog 51 #[v, .agg #[.int .i64 (kind), .int .i64 (age), .int .i64 (n), .int .i64 (m), .int .i64 (ld)]] w (RetQ3 w (blC T r kind age n m ld) (bl (T.bv r kind (ix T age) n.toNat m ld) (T.dur kind (ix T age) n.toNat - 2)).1 (bl (T.bv r kind (ix T age) n.toNat m ld) (T.dur kind (ix T age) n.toNat - 2)).2) := by
  (have hv' := hv; obtain ⟨A, c, rfl, hc, hm, hbig, hI⟩ := hv; have ht : TabAt w T (.agg #[.int .i64 T.first, .slice A T.n c]) := ⟨A, c, rfl, hc, hm, hbig, hI⟩)
  by_cases hp : polB T r kind age n m ld = true
  case neg =>
    have hp := Bool.eq_false_iff.2 hp
    rw [blC_pol hp, RetQ3_bad (by omega)]
    have HP := Lib.hid (i_IsPol T r kind age n m ld false hp)
    clear hp
    go_enter Try.func51, Try.ntmps51
    go_wp2_with (first | (go_at_call 155; (with_reducible refine (HP.out _ _ (hv'.up (by repeat' (first | (with_reducible exact Up.refl _) | (with_reducible assumption) | (with_reducible refine Up.alloc ?_ _) | (with_reducible refine Up.drew ?_) | (with_reducible refine Up.grow ?_ _) | (with_reducible refine Up.setCell ?_ (by (try simp); (try omega)) _))))).mono ?_); rintro e w' ⟨rfl, hb⟩; first | (obtain ⟨x, rfl⟩ := Grow.on x hb) | (obtain ⟨x, rfl⟩ := Grow.mk' hb)) | (go_at_call 218; (with_reducible refine (s_In _ _ _ _).mono ?_); rintro e w' ⟨rfl, rfl⟩) | (go_at_call 227; (with_reducible refine (i_In _ _ _ _).mono ?_); rintro e w' ⟨rfl, rfl⟩) | (go_at_call 287; (with_reducible refine (s_Rate _ _).mono ?_); rintro e w' ⟨rfl, rfl⟩) | (go_at_call 248; (with_reducible refine (i_Rate _ _).mono ?_); rintro e w' ⟨rfl, rfl⟩) | (go_at_call 323; (with_reducible refine (i_Years _ _).mono ?_); rintro e w' ⟨rfl, rfl⟩) | (go_at_call 292; (with_reducible refine (s_Amount6 _ _).mono ?_); rintro e w' ⟨rfl, rfl⟩) | (go_at_call 226; (with_reducible refine (s_Sum7 _ _).mono ?_); rintro e w' ⟨rfl, rfl⟩) | ((first | with_reducible refine wp_region_in x (by kernel_rfl) (by kernel_rfl) ?_ | with_reducible refine wp_region_here (by kernel_rfl) (by kernel_rfl) ?_); (repeat (go_big_quiet_step ((first | (go_at_call 155; with_reducible exact Ret.grow _ (HP.out _ _ (hv'.up (by repeat' (first | (with_reducible exact Up.refl _) | (with_reducible assumption) | (with_reducible refine Up.alloc ?_ _) | (with_reducible refine Up.drew ?_) | (with_reducible refine Up.grow ?_ _) | (with_reducible refine Up.setCell ?_ (by (try simp); (try omega)) _)))))) | (go_at_call 218; with_reducible exact Ret.same _ (s_In _ _ _ _)) | (go_at_call 227; with_reducible exact Ret.same _ (i_In _ _ _ _)) | (go_at_call 287; with_reducible exact Ret.same _ (s_Rate _ _)) | (go_at_call 248; with_reducible exact Ret.same _ (i_Rate _ _)) | (go_at_call 323; with_reducible exact Ret.same _ (i_Years _ _)) | (go_at_call 292; with_reducible exact Ret.same _ (s_Amount6 _ _)) | (go_at_call 226; with_reducible exact Ret.same _ (s_Sum7 _ _)))))); refine wpQuiet_nil ?_; intro w' hw'; obtain ⟨x, rfl⟩ := hw'))
    go_ret3
    exact ⟨rfl, (by repeat' (first | (with_reducible exact Up.refl _) | (with_reducible assumption) | (with_reducible refine Up.alloc ?_ _) | (with_reducible refine Up.drew ?_) | (with_reducible refine Up.grow ?_ _) | (with_reducible refine Up.setCell ?_ (by (try simp); (try omega)) _)))⟩
  have HP := Lib.hid (i_IsPol T r kind age n m ld true hp)
  obtain ⟨k, n, rfl, rfl, hk⟩ := polB_ok hp
  have HU := Lib.hid (i_Dur hk)
  have HOF := Lib.hid (i_Off hk)
  have HL := i_RList hk
  have ob := hk.office_bd
  have db := hk.dur_bd
  have E0 := hk.bl_code
  have HK := Lib.hid hk
  rw [ix_k, Int.toNat_natCast, E0]
  have HBV : Hid (∀ j : Nat, T.bv r kind k n m ld j = T.sv r kind k n m j - j * officeV (T.net r kind k n m) ld) := Lib.hid fun _ => rfl
  have HRG := Lib.hid fun i => hk.rg_bd (m := m) i
  have HDL : Hid (∀ j, j < T.dur kind k n → T.D r (k + j) = 0 → T.D r (k + T.dur kind k n - 1) = 0) := Lib.hid fun j hj hd => hk.d_last hj hd
  generalize T.bv r kind k n m ld = BV at *
  obtain ⟨O, hO⟩ : ∃ O, officeV (T.net r kind k n m) ld = O := ⟨_, rfl⟩
  rw [hO] at HOF HBV ob
  generalize wh T r k (T.dur kind k n) = WB at *
  obtain ⟨U, hU⟩ : ∃ U, T.dur kind k n = U := ⟨_, rfl⟩
  rw [hU] at db HU HL HDL ⊢
  replace HL := Lib.hid HL
  have hU0 : 0 < U := by omega
  clear hp hU hk hO E0
  by_cases h2 : U ≤ 2
  · rw [if_pos h2, RetQ3_bad (by omega)]
    have h21 : (U : Int) ≤ 2 := by omega
    go_enter Try.func51, Try.ntmps51
    go_wp2_with (first | (go_at_call 155; (with_reducible refine (HP.out _ _ (hv'.up (by repeat' (first | (with_reducible exact Up.refl _) | (with_reducible assumption) | (with_reducible refine Up.alloc ?_ _) | (with_reducible refine Up.drew ?_) | (with_reducible refine Up.grow ?_ _) | (with_reducible refine Up.setCell ?_ (by (try simp); (try omega)) _))))).mono ?_); rintro e w' ⟨rfl, hb⟩; first | (obtain ⟨x, rfl⟩ := Grow.on x hb) | (obtain ⟨x, rfl⟩ := Grow.mk' hb)) | (go_at_call 208; (with_reducible refine (HU.out _ _ (hv'.up (by repeat' (first | (with_reducible exact Up.refl _) | (with_reducible assumption) | (with_reducible refine Up.alloc ?_ _) | (with_reducible refine Up.drew ?_) | (with_reducible refine Up.grow ?_ _) | (with_reducible refine Up.setCell ?_ (by (try simp); (try omega)) _))))).mono ?_); rintro e w' ⟨rfl, hb⟩; first | (obtain ⟨x, rfl⟩ := Grow.on x hb) | (obtain ⟨x, rfl⟩ := Grow.mk' hb)) | (go_at_call 218; (with_reducible refine (s_In _ _ _ _).mono ?_); rintro e w' ⟨rfl, rfl⟩) | (go_at_call 227; (with_reducible refine (i_In _ _ _ _).mono ?_); rintro e w' ⟨rfl, rfl⟩) | (go_at_call 287; (with_reducible refine (s_Rate _ _).mono ?_); rintro e w' ⟨rfl, rfl⟩) | (go_at_call 248; (with_reducible refine (i_Rate _ _).mono ?_); rintro e w' ⟨rfl, rfl⟩) | (go_at_call 323; (with_reducible refine (i_Years _ _).mono ?_); rintro e w' ⟨rfl, rfl⟩) | (go_at_call 292; (with_reducible refine (s_Amount6 _ _).mono ?_); rintro e w' ⟨rfl, rfl⟩) | (go_at_call 226; (with_reducible refine (s_Sum7 _ _).mono ?_); rintro e w' ⟨rfl, rfl⟩) | ((first | with_reducible refine wp_region_in x (by kernel_rfl) (by kernel_rfl) ?_ | with_reducible refine wp_region_here (by kernel_rfl) (by kernel_rfl) ?_); (repeat (go_big_quiet_step ((first | (go_at_call 155; with_reducible exact Ret.grow _ (HP.out _ _ (hv'.up (by repeat' (first | (with_reducible exact Up.refl _) | (with_reducible assumption) | (with_reducible refine Up.alloc ?_ _) | (with_reducible refine Up.drew ?_) | (with_reducible refine Up.grow ?_ _) | (with_reducible refine Up.setCell ?_ (by (try simp); (try omega)) _)))))) | (go_at_call 208; with_reducible exact Ret.grow _ (HU.out _ _ (hv'.up (by repeat' (first | (with_reducible exact Up.refl _) | (with_reducible assumption) | (with_reducible refine Up.alloc ?_ _) | (with_reducible refine Up.drew ?_) | (with_reducible refine Up.grow ?_ _) | (with_reducible refine Up.setCell ?_ (by (try simp); (try omega)) _)))))) | (go_at_call 218; with_reducible exact Ret.same _ (s_In _ _ _ _)) | (go_at_call 227; with_reducible exact Ret.same _ (i_In _ _ _ _)) | (go_at_call 287; with_reducible exact Ret.same _ (s_Rate _ _)) | (go_at_call 248; with_reducible exact Ret.same _ (i_Rate _ _)) | (go_at_call 323; with_reducible exact Ret.same _ (i_Years _ _)) | (go_at_call 292; with_reducible exact Ret.same _ (s_Amount6 _ _)) | (go_at_call 226; with_reducible exact Ret.same _ (s_Sum7 _ _)))))); refine wpQuiet_nil ?_; intro w' hw'; obtain ⟨x, rfl⟩ := hw'))
    go_ret3
    exact ⟨rfl, (by repeat' (first | (with_reducible exact Up.refl _) | (with_reducible assumption) | (with_reducible refine Up.alloc ?_ _) | (with_reducible refine Up.drew ?_) | (with_reducible refine Up.grow ?_ _) | (with_reducible refine Up.setCell ?_ (by (try simp); (try omega)) _)))⟩
  rw [if_neg h2]
  obtain ⟨CB, hCB⟩ : ∃ CB : Int, (if T.D r (k + U - 1) = 0 then 5 else 0) = CB := ⟨_, rfl⟩
  rw [hCB]
  have HCB := Lib.hid hCB
  clear hCB
  have h21 : ¬ (U : Int) ≤ 2 := by omega
  go_enter Try.func51, Try.ntmps51
  go_wp2_with (first | (go_at_call 209; ((with_reducible refine (HL.out _ _ (hv'.up (by repeat' (first | (with_reducible exact Up.refl _) | (with_reducible assumption) | (with_reducible refine Up.alloc ?_ _) | (with_reducible refine Up.drew ?_) | (with_reducible refine Up.grow ?_ _) | (with_reducible refine Up.setCell ?_ (by (try simp); (try omega)) _))))).mono ?_); rintro e w5 ⟨vl, rfl, hb5, hown⟩; obtain ⟨g, c5, rfl, k1, k2, k3, hcell⟩ := hown.fn hU0; have HCE := Lib.hid hcell; clear hown hcell; first | (obtain ⟨x, rfl⟩ := Grow.on x hb5) | (obtain ⟨x, rfl⟩ := Grow.mk' hb5))) | (go_at_call 155; (with_reducible refine (HP.out _ _ (hv'.up (by repeat' (first | (with_reducible exact Up.refl _) | (with_reducible assumption) | (with_reducible refine Up.alloc ?_ _) | (with_reducible refine Up.drew ?_) | (with_reducible refine Up.grow ?_ _) | (with_reducible refine Up.setCell ?_ (by (try simp); (try omega)) _))))).mono ?_); rintro e w' ⟨rfl, hb⟩; first | (obtain ⟨x, rfl⟩ := Grow.on x hb) | (obtain ⟨x, rfl⟩ := Grow.mk' hb)) | (go_at_call 208; (with_reducible refine (HU.out _ _ (hv'.up (by repeat' (first | (with_reducible exact Up.refl _) | (with_reducible assumption) | (with_reducible refine Up.alloc ?_ _) | (with_reducible refine Up.drew ?_) | (with_reducible refine Up.grow ?_ _) | (with_reducible refine Up.setCell ?_ (by (try simp); (try omega)) _))))).mono ?_); rintro e w' ⟨rfl, hb⟩; first | (obtain ⟨x, rfl⟩ := Grow.on x hb) | (obtain ⟨x, rfl⟩ := Grow.mk' hb)) | (go_at_call 210; (with_reducible refine (HOF.out _ _ (hv'.up (by repeat' (first | (with_reducible exact Up.refl _) | (with_reducible assumption) | (with_reducible refine Up.alloc ?_ _) | (with_reducible refine Up.drew ?_) | (with_reducible refine Up.grow ?_ _) | (with_reducible refine Up.setCell ?_ (by (try simp); (try omega)) _))))).mono ?_); rintro e w' ⟨rfl, hb⟩; first | (obtain ⟨x, rfl⟩ := Grow.on x hb) | (obtain ⟨x, rfl⟩ := Grow.mk' hb)) | (go_at_call 218; (with_reducible refine (s_In _ _ _ _).mono ?_); rintro e w' ⟨rfl, rfl⟩) | (go_at_call 227; (with_reducible refine (i_In _ _ _ _).mono ?_); rintro e w' ⟨rfl, rfl⟩) | (go_at_call 287; (with_reducible refine (s_Rate _ _).mono ?_); rintro e w' ⟨rfl, rfl⟩) | (go_at_call 248; (with_reducible refine (i_Rate _ _).mono ?_); rintro e w' ⟨rfl, rfl⟩) | (go_at_call 323; (with_reducible refine (i_Years _ _).mono ?_); rintro e w' ⟨rfl, rfl⟩) | (go_at_call 292; (with_reducible refine (s_Amount6 _ _).mono ?_); rintro e w' ⟨rfl, rfl⟩) | (go_at_call 226; (with_reducible refine (s_Sum7 _ _).mono ?_); rintro e w' ⟨rfl, rfl⟩) | ((first | with_reducible refine wp_region_in x (by kernel_rfl) (by kernel_rfl) ?_ | with_reducible refine wp_region_here (by kernel_rfl) (by kernel_rfl) ?_); (repeat (go_big_quiet_step ((first | (go_at_call 155; with_reducible exact Ret.grow _ (HP.out _ _ (hv'.up (by repeat' (first | (with_reducible exact Up.refl _) | (with_reducible assumption) | (with_reducible refine Up.alloc ?_ _) | (with_reducible refine Up.drew ?_) | (with_reducible refine Up.grow ?_ _) | (with_reducible refine Up.setCell ?_ (by (try simp); (try omega)) _)))))) | (go_at_call 208; with_reducible exact Ret.grow _ (HU.out _ _ (hv'.up (by repeat' (first | (with_reducible exact Up.refl _) | (with_reducible assumption) | (with_reducible refine Up.alloc ?_ _) | (with_reducible refine Up.drew ?_) | (with_reducible refine Up.grow ?_ _) | (with_reducible refine Up.setCell ?_ (by (try simp); (try omega)) _)))))) | (go_at_call 210; with_reducible exact Ret.grow _ (HOF.out _ _ (hv'.up (by repeat' (first | (with_reducible exact Up.refl _) | (with_reducible assumption) | (with_reducible refine Up.alloc ?_ _) | (with_reducible refine Up.drew ?_) | (with_reducible refine Up.grow ?_ _) | (with_reducible refine Up.setCell ?_ (by (try simp); (try omega)) _)))))) | (go_at_call 218; with_reducible exact Ret.same _ (s_In _ _ _ _)) | (go_at_call 227; with_reducible exact Ret.same _ (i_In _ _ _ _)) | (go_at_call 287; with_reducible exact Ret.same _ (s_Rate _ _)) | (go_at_call 248; with_reducible exact Ret.same _ (i_Rate _ _)) | (go_at_call 323; with_reducible exact Ret.same _ (i_Years _ _)) | (go_at_call 292; with_reducible exact Ret.same _ (s_Amount6 _ _)) | (go_at_call 226; with_reducible exact Ret.same _ (s_Sum7 _ _)))))); refine wpQuiet_nil ?_; intro w' hw'; obtain ⟨x, rfl⟩ := hw'))
  obtain ⟨w9, hw9⟩ : ∃ w9, w9 = x.to := ⟨_, rfl⟩
  have hup9 : Up w w9 := by rw [hw9]; exact (by repeat' (first | (with_reducible exact Up.refl _) | (with_reducible assumption) | (with_reducible refine Up.alloc ?_ _) | (with_reducible refine Up.drew ?_) | (with_reducible refine Up.grow ?_ _) | (with_reducible refine Up.setCell ?_ (by (try simp); (try omega)) _)))
  have k9 : g < w9.heap.size := by have := (show Up _ x.to from hb).size; rw [hw9]; omega
  have HC9 : Hid (∀ i, i < U → w9.cell? ⟨g, i, none⟩ = some (.int .i64 (T.rg r kind k n m i))) := Lib.hid fun i hi => by
    rw [hw9]; exact ((show Up _ x.to from hb).cell (p := ⟨g, i, none⟩) k3).trans (HCE.out i hi)
  rw [← hw9]
  clear hw9 HCE hb hb5
  go_loopw [10, 11, 12] (fun bs ms i wr => ∃ (t : Nat) (y : Grow w9), t + 2 ≤ U ∧ i = .int .i64 ((t : Int) + 2) ∧ wr = y.to ∧ Hid (t = 0 ∨ ¬ T.D r (k + (t + 1)) = 0) ∧ bs = .int .i64 (bl BV t).1 ∧ ms = .int .i64 (bl BV t).2) (fun _ _ i _ => U - (intOf i).toNat)
  case atStart => exact ⟨0, ⟨w9, Below.refl _ _⟩, by omega, rfl, rfl, Lib.hid (Or.inl rfl), rfl, rfl⟩
  case round =>
    obtain ⟨t, x, hj, rfl, rfl, HPO, rfl, rfl⟩ := hrel
    by_cases hlt : t + 2 < U
    · have hlt1 : (t : Int) + 2 < U := by omega
      have g1 : (0 : Int) ≤ (t : Int) + 2 := by omega
      have g3 : ((t : Int) + 2).toNat = t + 2 := by omega
      have c1 := grow_fn k9 HC9.out hlt x
      have rgb := HRG.out (t + 2)
      by_cases hd : T.D r (k + (t + 2)) = 0
      · have f1 := HDL.out (t + 2) hlt hd
        rw [show CB = 5 from by rw [← HCB.out, if_pos f1], RetQ3_bad (by omega)]
        have hneg := rgb.2.2.2 hd
        generalize T.rg r kind k n m (t + 2) = G at *
        clear f1 hd rgb
        go_wp2_with (first | (go_at_call 211; (with_reducible refine (i_Length _ _ _ (by omega) _).mono ?_); rintro e w' ⟨rfl, rfl⟩) | (go_at_call 218; (with_reducible refine (s_In _ _ _ _).mono ?_); rintro e w' ⟨rfl, rfl⟩) | (go_at_call 227; (with_reducible refine (i_In _ _ _ _).mono ?_); rintro e w' ⟨rfl, rfl⟩) | (go_at_call 287; (with_reducible refine (s_Rate _ _).mono ?_); rintro e w' ⟨rfl, rfl⟩) | (go_at_call 248; (with_reducible refine (i_Rate _ _).mono ?_); rintro e w' ⟨rfl, rfl⟩) | (go_at_call 323; (with_reducible refine (i_Years _ _).mono ?_); rintro e w' ⟨rfl, rfl⟩) | (go_at_call 292; (with_reducible refine (s_Amount6 _ _).mono ?_); rintro e w' ⟨rfl, rfl⟩) | (go_at_call 226; (with_reducible refine (s_Sum7 _ _).mono ?_); rintro e w' ⟨rfl, rfl⟩) | ((first | with_reducible refine wp_region_in x (by kernel_rfl) (by kernel_rfl) ?_ | with_reducible refine wp_region_here (by kernel_rfl) (by kernel_rfl) ?_); (repeat (go_big_quiet_step ((first | (go_at_call 211; with_reducible exact Ret.same _ (i_Length _ _ _ (by omega) _)) | (go_at_call 218; with_reducible exact Ret.same _ (s_In _ _ _ _)) | (go_at_call 227; with_reducible exact Ret.same _ (i_In _ _ _ _)) | (go_at_call 287; with_reducible exact Ret.same _ (s_Rate _ _)) | (go_at_call 248; with_reducible exact Ret.same _ (i_Rate _ _)) | (go_at_call 323; with_reducible exact Ret.same _ (i_Years _ _)) | (go_at_call 292; with_reducible exact Ret.same _ (s_Amount6 _ _)) | (go_at_call 226; with_reducible exact Ret.same _ (s_Sum7 _ _)))))); refine wpQuiet_nil ?_; intro w' hw'; obtain ⟨x, rfl⟩ := hw'))
        go_ret3
        exact ⟨rfl, hup9.trans (by repeat' (first | (with_reducible exact Up.refl _) | (with_reducible assumption) | (with_reducible refine Up.alloc ?_ _) | (with_reducible refine Up.drew ?_) | (with_reducible refine Up.grow ?_ _) | (with_reducible refine Up.setCell ?_ (by (try simp); (try omega)) _)))⟩
      · have sb := HK.out.sv_bd (t + 2) (HK.out.d_pos hd)
        have hpos : ¬ T.rg r kind k n m (t + 2) < 0 := fun h => hd (rgb.2.2.1 h)
        have HM := i_PerM (T.rg r kind k n m (t + 2)) 900 (by omega) (by omega) (by omega) (by omega)
        have er : T.rg r kind k n m (t + 2) * 900 / 1000 = T.sv r kind k n m (t + 2) := by unfold Tab.sv; rw [HK.out.rg_ok hd]
        rw [er] at HM
        have eb := HBV.out (t + 2)
        rw [show (((t + 2 : Nat) : Int)) = (t : Int) + 2 from by omega] at eb
        have pb : 0 ≤ ((t : Int) + 2) * O ∧ ((t : Int) + 2) * O ≤ 122 * 50000000000 := ⟨Int.mul_nonneg (by omega) ob.1, Int.mul_le_mul (by omega) ob.2.1 ob.1 (by omega)⟩
        have E := Lib.hid (bl_succ BV t)
        have HN := Lib.hid (show t + 1 = 0 ∨ ¬ T.D r (k + (t + 1 + 1)) = 0 from Or.inr hd)
        generalize T.sv r kind k n m (t + 2) = X at *
        generalize T.rg r kind k n m (t + 2) = G at *
        generalize BV (t + 2) = Y at *
        have i2 : IntKind.i64.wrap (((t : Int) + 2) * O) = ((t : Int) + 2) * O := IntWalk.i64_in _ (by omega)
        have i3 : IntKind.i64.wrap (X - ((t : Int) + 2) * O) = Y := by rw [IntWalk.i64_in _ (by omega)]; omega
        have i4 : IntKind.i64.wrap ((t : Int) + 2 + 1) = ((t + 1 : Nat) : Int) + 2 := by rw [IntWalk.i64_in _ (by omega)]; omega
        replace HM := Lib.hid HM
        clear hd eb pb er rgb
        by_cases hb1 : (bl BV t).1 < 0
        · have E2 : Hid (bl BV (t + 1) = (((t + 2 : Nat) : Int), Y)) := Lib.hid (by rw [E.out, if_pos (Or.inl hb1)])
          generalize (bl BV t).1 = B1 at *
          generalize (bl BV t).2 = B2 at *
          go_wp2_with (first | (go_at_call 211; (with_reducible refine (i_Length _ _ _ (by omega) _).mono ?_); rintro e w' ⟨rfl, rfl⟩) | (go_at_call 212; (with_reducible refine (HM.out _).mono ?_); rintro e w' ⟨rfl, rfl⟩) | (go_at_call 218; (with_reducible refine (s_In _ _ _ _).mono ?_); rintro e w' ⟨rfl, rfl⟩) | (go_at_call 227; (with_reducible refine (i_In _ _ _ _).mono ?_); rintro e w' ⟨rfl, rfl⟩) | (go_at_call 287; (with_reducible refine (s_Rate _ _).mono ?_); rintro e w' ⟨rfl, rfl⟩) | (go_at_call 248; (with_reducible refine (i_Rate _ _).mono ?_); rintro e w' ⟨rfl, rfl⟩) | (go_at_call 323; (with_reducible refine (i_Years _ _).mono ?_); rintro e w' ⟨rfl, rfl⟩) | (go_at_call 292; (with_reducible refine (s_Amount6 _ _).mono ?_); rintro e w' ⟨rfl, rfl⟩) | (go_at_call 226; (with_reducible refine (s_Sum7 _ _).mono ?_); rintro e w' ⟨rfl, rfl⟩) | ((first | with_reducible refine wp_region_in x (by kernel_rfl) (by kernel_rfl) ?_ | with_reducible refine wp_region_here (by kernel_rfl) (by kernel_rfl) ?_); (repeat (go_big_quiet_step ((first | (go_at_call 211; with_reducible exact Ret.same _ (i_Length _ _ _ (by omega) _)) | (go_at_call 212; with_reducible exact Ret.same _ (HM.out _)) | (go_at_call 218; with_reducible exact Ret.same _ (s_In _ _ _ _)) | (go_at_call 227; with_reducible exact Ret.same _ (i_In _ _ _ _)) | (go_at_call 287; with_reducible exact Ret.same _ (s_Rate _ _)) | (go_at_call 248; with_reducible exact Ret.same _ (i_Rate _ _)) | (go_at_call 323; with_reducible exact Ret.same _ (i_Years _ _)) | (go_at_call 292; with_reducible exact Ret.same _ (s_Amount6 _ _)) | (go_at_call 226; with_reducible exact Ret.same _ (s_Sum7 _ _)))))); refine wpQuiet_nil ?_; intro w' hw'; obtain ⟨x, rfl⟩ := hw'))
          go_roundw
          case rel => exact ⟨t + 1, x, by omega, by go_num, rfl, HN, by rw [E2.out]; go_num, by rw [E2.out]⟩
          case measure => simp [intOf]; omega
        · by_cases hg : (bl BV t).2 < Y
          · have E2 : Hid (bl BV (t + 1) = (((t + 2 : Nat) : Int), Y)) := Lib.hid (by rw [E.out, if_pos (Or.inr hg)])
            generalize (bl BV t).1 = B1 at *
            generalize (bl BV t).2 = B2 at *
            go_wp2_with (first | (go_at_call 211; (with_reducible refine (i_Length _ _ _ (by omega) _).mono ?_); rintro e w' ⟨rfl, rfl⟩) | (go_at_call 212; (with_reducible refine (HM.out _).mono ?_); rintro e w' ⟨rfl, rfl⟩) | (go_at_call 218; (with_reducible refine (s_In _ _ _ _).mono ?_); rintro e w' ⟨rfl, rfl⟩) | (go_at_call 227; (with_reducible refine (i_In _ _ _ _).mono ?_); rintro e w' ⟨rfl, rfl⟩) | (go_at_call 287; (with_reducible refine (s_Rate _ _).mono ?_); rintro e w' ⟨rfl, rfl⟩) | (go_at_call 248; (with_reducible refine (i_Rate _ _).mono ?_); rintro e w' ⟨rfl, rfl⟩) | (go_at_call 323; (with_reducible refine (i_Years _ _).mono ?_); rintro e w' ⟨rfl, rfl⟩) | (go_at_call 292; (with_reducible refine (s_Amount6 _ _).mono ?_); rintro e w' ⟨rfl, rfl⟩) | (go_at_call 226; (with_reducible refine (s_Sum7 _ _).mono ?_); rintro e w' ⟨rfl, rfl⟩) | ((first | with_reducible refine wp_region_in x (by kernel_rfl) (by kernel_rfl) ?_ | with_reducible refine wp_region_here (by kernel_rfl) (by kernel_rfl) ?_); (repeat (go_big_quiet_step ((first | (go_at_call 211; with_reducible exact Ret.same _ (i_Length _ _ _ (by omega) _)) | (go_at_call 212; with_reducible exact Ret.same _ (HM.out _)) | (go_at_call 218; with_reducible exact Ret.same _ (s_In _ _ _ _)) | (go_at_call 227; with_reducible exact Ret.same _ (i_In _ _ _ _)) | (go_at_call 287; with_reducible exact Ret.same _ (s_Rate _ _)) | (go_at_call 248; with_reducible exact Ret.same _ (i_Rate _ _)) | (go_at_call 323; with_reducible exact Ret.same _ (i_Years _ _)) | (go_at_call 292; with_reducible exact Ret.same _ (s_Amount6 _ _)) | (go_at_call 226; with_reducible exact Ret.same _ (s_Sum7 _ _)))))); refine wpQuiet_nil ?_; intro w' hw'; obtain ⟨x, rfl⟩ := hw'))
            go_roundw
            case rel => exact ⟨t + 1, x, by omega, by go_num, rfl, HN, by rw [E2.out]; go_num, by rw [E2.out]⟩
            case measure => simp [intOf]; omega
          · have E2 : Hid ((bl BV (t + 1)).1 = (bl BV t).1 ∧ (bl BV (t + 1)).2 = (bl BV t).2) := Lib.hid (by rw [E.out, if_neg (by rintro (h | h); exact hb1 h; exact hg h)]; exact ⟨rfl, rfl⟩)
            generalize (bl BV t).1 = B1 at *
            generalize (bl BV t).2 = B2 at *
            go_wp2_with (first | (go_at_call 211; (with_reducible refine (i_Length _ _ _ (by omega) _).mono ?_); rintro e w' ⟨rfl, rfl⟩) | (go_at_call 212; (with_reducible refine (HM.out _).mono ?_); rintro e w' ⟨rfl, rfl⟩) | (go_at_call 218; (with_reducible refine (s_In _ _ _ _).mono ?_); rintro e w' ⟨rfl, rfl⟩) | (go_at_call 227; (with_reducible refine (i_In _ _ _ _).mono ?_); rintro e w' ⟨rfl, rfl⟩) | (go_at_call 287; (with_reducible refine (s_Rate _ _).mono ?_); rintro e w' ⟨rfl, rfl⟩) | (go_at_call 248; (with_reducible refine (i_Rate _ _).mono ?_); rintro e w' ⟨rfl, rfl⟩) | (go_at_call 323; (with_reducible refine (i_Years _ _).mono ?_); rintro e w' ⟨rfl, rfl⟩) | (go_at_call 292; (with_reducible refine (s_Amount6 _ _).mono ?_); rintro e w' ⟨rfl, rfl⟩) | (go_at_call 226; (with_reducible refine (s_Sum7 _ _).mono ?_); rintro e w' ⟨rfl, rfl⟩) | ((first | with_reducible refine wp_region_in x (by kernel_rfl) (by kernel_rfl) ?_ | with_reducible refine wp_region_here (by kernel_rfl) (by kernel_rfl) ?_); (repeat (go_big_quiet_step ((first | (go_at_call 211; with_reducible exact Ret.same _ (i_Length _ _ _ (by omega) _)) | (go_at_call 212; with_reducible exact Ret.same _ (HM.out _)) | (go_at_call 218; with_reducible exact Ret.same _ (s_In _ _ _ _)) | (go_at_call 227; with_reducible exact Ret.same _ (i_In _ _ _ _)) | (go_at_call 287; with_reducible exact Ret.same _ (s_Rate _ _)) | (go_at_call 248; with_reducible exact Ret.same _ (i_Rate _ _)) | (go_at_call 323; with_reducible exact Ret.same _ (i_Years _ _)) | (go_at_call 292; with_reducible exact Ret.same _ (s_Amount6 _ _)) | (go_at_call 226; with_reducible exact Ret.same _ (s_Sum7 _ _)))))); refine wpQuiet_nil ?_; intro w' hw'; obtain ⟨x, rfl⟩ := hw'))
            go_roundw
            case rel => exact ⟨t + 1, x, by omega, by go_num, rfl, HN, by rw [E2.out.1], by rw [E2.out.2]⟩
            case measure => simp [intOf]; omega
    · have hlt1 : ¬ (t : Int) + 2 < U := by omega
      have F1 := Lib.hid (show ¬ T.D r (k + U - 1) = 0 by
        rw [show k + U - 1 = k + (t + 1) from by omega]
        rcases HPO.out with h | h
        · omega
        · exact h)
      have F2 := Lib.hid (show U - 2 = t by omega)
      go_wp2_with (first | (go_at_call 211; (with_reducible refine (i_Length _ _ _ (by omega) _).mono ?_); rintro e w' ⟨rfl, rfl⟩) | (go_at_call 218; (with_reducible refine (s_In _ _ _ _).mono ?_); rintro e w' ⟨rfl, rfl⟩) | (go_at_call 227; (with_reducible refine (i_In _ _ _ _).mono ?_); rintro e w' ⟨rfl, rfl⟩) | (go_at_call 287; (with_reducible refine (s_Rate _ _).mono ?_); rintro e w' ⟨rfl, rfl⟩) | (go_at_call 248; (with_reducible refine (i_Rate _ _).mono ?_); rintro e w' ⟨rfl, rfl⟩) | (go_at_call 323; (with_reducible refine (i_Years _ _).mono ?_); rintro e w' ⟨rfl, rfl⟩) | (go_at_call 292; (with_reducible refine (s_Amount6 _ _).mono ?_); rintro e w' ⟨rfl, rfl⟩) | (go_at_call 226; (with_reducible refine (s_Sum7 _ _).mono ?_); rintro e w' ⟨rfl, rfl⟩) | ((first | with_reducible refine wp_region_in x (by kernel_rfl) (by kernel_rfl) ?_ | with_reducible refine wp_region_here (by kernel_rfl) (by kernel_rfl) ?_); (repeat (go_big_quiet_step ((first | (go_at_call 211; with_reducible exact Ret.same _ (i_Length _ _ _ (by omega) _)) | (go_at_call 218; with_reducible exact Ret.same _ (s_In _ _ _ _)) | (go_at_call 227; with_reducible exact Ret.same _ (i_In _ _ _ _)) | (go_at_call 287; with_reducible exact Ret.same _ (s_Rate _ _)) | (go_at_call 248; with_reducible exact Ret.same _ (i_Rate _ _)) | (go_at_call 323; with_reducible exact Ret.same _ (i_Years _ _)) | (go_at_call 292; with_reducible exact Ret.same _ (s_Amount6 _ _)) | (go_at_call 226; with_reducible exact Ret.same _ (s_Sum7 _ _)))))); refine wpQuiet_nil ?_; intro w' hw'; obtain ⟨x, rfl⟩ := hw'))
      go_ret3
      rw [← HCB.out, if_neg F1.out, RetQ3_ok, F2.out]
      exact ⟨rfl, hup9.trans (by repeat' (first | (with_reducible exact Up.refl _) | (with_reducible assumption) | (with_reducible refine Up.alloc ?_ _) | (with_reducible refine Up.drew ?_) | (with_reducible refine Up.grow ?_ _) | (with_reducible refine Up.setCell ?_ (by (try simp); (try omega)) _)))⟩
set_option maxRecDepth 100000 in
set_option maxHeartbeats 4000000 in
theorem i_KeptYears (T : Tab) (r kind age n m ld j : Int) (v : Value) (w : World) (hv : BasAt w T r v) :
    Calls Try.prog 54 #[v, .agg #[.int .i64 (kind), .int .i64 (age), .int .i64 (n), .int .i64 (m), .int .i64 (ld)], .int .i64 j] w (RetQ w (lvC T r kind age n m ld j) (kyV T r kind (ix T age) n.toNat m j.toNat)) := by
  (have hv' := hv; obtain ⟨A, c, rfl, hc, hm, hbig, hI⟩ := hv; have ht : TabAt w T (.agg #[.int .i64 T.first, .slice A T.n c]) := ⟨A, c, rfl, hc, hm, hbig, hI⟩)
  by_cases hz : lvC T r kind age n m ld j = 0
  case neg =>
    have HC := i_ChkLB (m := m) (ld := ld) (j := j) rfl hz
    rw [RetQ_bad hz]
    replace HC := Lib.hid HC
    (have hz1 : ((lvC T r kind age n m ld j) != 0) = true := (by simpa using hz)); (have hz2 : ((lvC T r kind age n m ld j) == 0) = false := (by simpa using hz))
    clear hz
    generalize lvC T r kind age n m ld j = K at *
    go_enter Try.func54, Try.ntmps54
    go_wp2_with (first | (go_at_call 215; (with_reducible refine (HC.out _ _ (hv'.up (by repeat' (first | (with_reducible exact Up.refl _) | (with_reducible assumption) | (with_reducible refine Up.alloc ?_ _) | (with_reducible refine Up.drew ?_) | (with_reducible refine Up.grow ?_ _) | (with_reducible refine Up.setCell ?_ (by (try simp); (try omega)) _))))).mono ?_); rintro e w' ⟨rfl, hb⟩; first | (obtain ⟨x, rfl⟩ := Grow.on x hb) | (obtain ⟨x, rfl⟩ := Grow.mk' hb)) | (go_at_call 218; (with_reducible refine (s_In _ _ _ _).mono ?_); rintro e w' ⟨rfl, rfl⟩) | (go_at_call 227; (with_reducible refine (i_In _ _ _ _).mono ?_); rintro e w' ⟨rfl, rfl⟩) | (go_at_call 287; (with_reducible refine (s_Rate _ _).mono ?_); rintro e w' ⟨rfl, rfl⟩) | (go_at_call 248; (with_reducible refine (i_Rate _ _).mono ?_); rintro e w' ⟨rfl, rfl⟩) | (go_at_call 323; (with_reducible refine (i_Years _ _).mono ?_); rintro e w' ⟨rfl, rfl⟩) | (go_at_call 292; (with_reducible refine (s_Amount6 _ _).mono ?_); rintro e w' ⟨rfl, rfl⟩) | (go_at_call 226; (with_reducible refine (s_Sum7 _ _).mono ?_); rintro e w' ⟨rfl, rfl⟩) | ((first | with_reducible refine wp_region_in x (by kernel_rfl) (by kernel_rfl) ?_ | with_reducible refine wp_region_here (by kernel_rfl) (by kernel_rfl) ?_); (repeat (go_big_quiet_step ((first | (go_at_call 215; with_reducible exact Ret.grow _ (HC.out _ _ (hv'.up (by repeat' (first | (with_reducible exact Up.refl _) | (with_reducible assumption) | (with_reducible refine Up.alloc ?_ _) | (with_reducible refine Up.drew ?_) | (with_reducible refine Up.grow ?_ _) | (with_reducible refine Up.setCell ?_ (by (try simp); (try omega)) _)))))) | (go_at_call 218; with_reducible exact Ret.same _ (s_In _ _ _ _)) | (go_at_call 227; with_reducible exact Ret.same _ (i_In _ _ _ _)) | (go_at_call 287; with_reducible exact Ret.same _ (s_Rate _ _)) | (go_at_call 248; with_reducible exact Ret.same _ (i_Rate _ _)) | (go_at_call 323; with_reducible exact Ret.same _ (i_Years _ _)) | (go_at_call 292; with_reducible exact Ret.same _ (s_Amount6 _ _)) | (go_at_call 226; with_reducible exact Ret.same _ (s_Sum7 _ _)))))); refine wpQuiet_nil ?_; intro w' hw'; obtain ⟨x, rfl⟩ := hw'))
    go_ret2
    exact ⟨rfl, (by repeat' (first | (with_reducible exact Up.refl _) | (with_reducible assumption) | (with_reducible refine Up.alloc ?_ _) | (with_reducible refine Up.drew ?_) | (with_reducible refine Up.grow ?_ _) | (with_reducible refine Up.setCell ?_ (by (try simp); (try omega)) _)))⟩
  rw [hz]
  obtain ⟨k, n, j, rfl, rfl, rfl, hk, hj, hd, hj2⟩ := lvC_ok hz
  simp only [RetQ_ok, ix_k, Int.toNat_natCast]
  have HC := i_ChkLK hk hj hd hj2
  have HU := Lib.hid (i_Dur hk)
  have db := hk.dur_bd; have da := hk.dur_age; have q1 := hk.hT.lo
  have m1 := hk.m1; have m2 := hk.m2
  have HAP (y : Nat) (hy1 : 1 ≤ y) (hy : T.first + (k + j : Nat) + y ≤ 150) (hy2 : y ≤ 120) : ∀ v w, TabAt w T v → Calls Try.prog 180 #[v, .int .i64 r, .int .i64 1, .int .i64 (T.first + k + j), .int .i64 y, .int .i64 m] w (Ret w (.tuple #[.int .i64 (up m (T.top r 1 (k + j) y) (T.D r (k + j))), .int .i64 0])) := fun v w hv => by
    have h := i_AP T r 1 (T.first + (k + j : Nat)) y m v w hv
    rw [code7_term hk.hT hk.h0 hk.h1 hd hy1 hy2 hy m1 m2, RetQ_ok] at h
    unfold apV at h
    rw [ix_k, Int.toNat_natCast] at h
    rwa [show T.first + ((k + j : Nat) : Int) = T.first + k + j from by omega] at h
  replace HAP := Lib.hid HAP
  have i1 : IntKind.i64.wrap (T.first + k + j) = T.first + k + j := IntWalk.i64_in _ (by omega)
  unfold kyV
  generalize T.sv r kind k n m j = V at *
  generalize T.res r kind k n m j = Y at *
  generalize T.top r kind (k + j) (n - j) = N at *
  generalize T.base r kind (k + j) (n - j) = B at *
  replace HC := Lib.hid HC
  obtain ⟨M, hM⟩ : ∃ M, T.dur kind k n - j = M := ⟨_, rfl⟩
  rw [hM]
  have i2 : IntKind.i64.wrap ((T.dur kind k n : Int) - j) = M := by rw [IntWalk.i64_in _ (by omega)]; omega
  have KS := Lib.hid (ky_succ (kyP T r (k + j) m V))
  have HKP : Hid (∀ y, kyP T r (k + j) m V y = decide (up m (T.top r 1 (k + j) y) (T.D r (k + j)) ≤ V)) := Lib.hid fun _ => rfl
  generalize kyP T r (k + j) m V = P at *
  generalize T.dur kind k n = U at *
  have hMb : M ≤ 120 := by omega
  have hMa : T.first + k + j + M ≤ 150 := by omega
  clear hz hk hd hM
  generalize T.D r (k + j) = D at *
  go_enter Try.func54, Try.ntmps54
  go_wp2_with (first | (go_at_call 215; (with_reducible refine (HC.out _ _ (hv'.up (by repeat' (first | (with_reducible exact Up.refl _) | (with_reducible assumption) | (with_reducible refine Up.alloc ?_ _) | (with_reducible refine Up.drew ?_) | (with_reducible refine Up.grow ?_ _) | (with_reducible refine Up.setCell ?_ (by (try simp); (try omega)) _))))).mono ?_); rintro e w' ⟨rfl, hb⟩; first | (obtain ⟨x, rfl⟩ := Grow.on x hb) | (obtain ⟨x, rfl⟩ := Grow.mk' hb)) | (go_at_call 218; (with_reducible refine (s_In _ _ _ _).mono ?_); rintro e w' ⟨rfl, rfl⟩) | (go_at_call 227; (with_reducible refine (i_In _ _ _ _).mono ?_); rintro e w' ⟨rfl, rfl⟩) | (go_at_call 287; (with_reducible refine (s_Rate _ _).mono ?_); rintro e w' ⟨rfl, rfl⟩) | (go_at_call 248; (with_reducible refine (i_Rate _ _).mono ?_); rintro e w' ⟨rfl, rfl⟩) | (go_at_call 323; (with_reducible refine (i_Years _ _).mono ?_); rintro e w' ⟨rfl, rfl⟩) | (go_at_call 292; (with_reducible refine (s_Amount6 _ _).mono ?_); rintro e w' ⟨rfl, rfl⟩) | (go_at_call 226; (with_reducible refine (s_Sum7 _ _).mono ?_); rintro e w' ⟨rfl, rfl⟩) | ((first | with_reducible refine wp_region_in x (by kernel_rfl) (by kernel_rfl) ?_ | with_reducible refine wp_region_here (by kernel_rfl) (by kernel_rfl) ?_); (repeat (go_big_quiet_step ((first | (go_at_call 215; with_reducible exact Ret.grow _ (HC.out _ _ (hv'.up (by repeat' (first | (with_reducible exact Up.refl _) | (with_reducible assumption) | (with_reducible refine Up.alloc ?_ _) | (with_reducible refine Up.drew ?_) | (with_reducible refine Up.grow ?_ _) | (with_reducible refine Up.setCell ?_ (by (try simp); (try omega)) _)))))) | (go_at_call 218; with_reducible exact Ret.same _ (s_In _ _ _ _)) | (go_at_call 227; with_reducible exact Ret.same _ (i_In _ _ _ _)) | (go_at_call 287; with_reducible exact Ret.same _ (s_Rate _ _)) | (go_at_call 248; with_reducible exact Ret.same _ (i_Rate _ _)) | (go_at_call 323; with_reducible exact Ret.same _ (i_Years _ _)) | (go_at_call 292; with_reducible exact Ret.same _ (s_Amount6 _ _)) | (go_at_call 226; with_reducible exact Ret.same _ (s_Sum7 _ _)))))); refine wpQuiet_nil ?_; intro w' hw'; obtain ⟨x, rfl⟩ := hw'))
  have hB9 := Blk.new x.to 136 #[.int .i64 N, .int .i64 B, .int .i64 D, .int .i64 Y, .int .i64 V]
  obtain ⟨z0, hz0⟩ := Grow.mk' (show Up ((w.alloc (.cells #[.int .i64 T.first, .slice A T.n c, .int .i64 r] 42)).alloc (.cells #[.int .i64 (kind), .int .i64 (T.first + k), .int .i64 (n), .int .i64 (m), .int .i64 (ld)] 44)) (x.to.alloc (.cells #[.int .i64 N, .int .i64 B, .int .i64 D, .int .i64 Y, .int .i64 V] 136)) from (by repeat' (first | (with_reducible exact Up.refl _) | (with_reducible assumption) | (with_reducible refine Up.alloc ?_ _) | (with_reducible refine Up.drew ?_) | (with_reducible refine Up.grow ?_ _) | (with_reducible refine Up.setCell ?_ (by (try simp); (try omega)) _))))
  rw [hz0] at hB9 ⊢
  clear hz0
  generalize x.to.heap.size = B8 at *
  go_loopw [10, 11] (fun yr i wr => ∃ (y : Nat) (z : Grow ((w.alloc (.cells #[.int .i64 T.first, .slice A T.n c, .int .i64 r] 42)).alloc (.cells #[.int .i64 (kind), .int .i64 (T.first + k), .int .i64 (n), .int .i64 (m), .int .i64 (ld)] 44))), y ≤ M ∧ yr = .int .i64 (ky P y : Nat) ∧ i = .int .i64 ((y : Int) + 1) ∧ wr = z.to ∧ Blk z.to B8 136 #[.int .i64 N, .int .i64 B, .int .i64 D, .int .i64 Y, .int .i64 V]) (fun _ i _ => M + 1 - (intOf i).toNat)
  case atStart => exact ⟨0, z0, by omega, rfl, by go_num, rfl, hB9⟩
  case round =>
    clear hB9 hb x
    obtain ⟨y, z, hy, rfl, rfl, rfl, hB9⟩ := hrel
    have zs := z.size
    simp only [World.size_alloc] at zs
    have iz1 : InW z.to w.heap.size := by unfold InW; omega
    have iz2 : InW z.to (w.heap.size + 1) := by unfold InW; omega
    clear zs
    have c4 := hB9.cell 4; have ir := hB9.inw
    by_cases hlt : y < M
    · have HA := HAP.out (y + 1) (by omega) (by omega) (by omega)
      rw [show (((y + 1 : Nat) : Int)) = (y : Int) + 1 from by omega] at HA
      have E := Lib.hid (KS.out y)
      have HK := HKP.out (y + 1)
      have g1 : (y : Int) + 1 ≤ M := by omega
      have i3 : IntKind.i64.wrap ((y : Int) + 1 + 1) = ((y + 1 : Nat) : Int) + 1 := by rw [IntWalk.i64_in _ (by omega)]; omega
      generalize up m (T.top r 1 (k + j) (y + 1)) D = Q at *
      replace HA := Lib.hid HA
      by_cases hq : Q ≤ V
      · have E2 : Hid (ky P (y + 1) = y + 1) := Lib.hid (by rw [E.out, HK, if_pos (by simpa using hq)])
        clear HK
        go_wp2_with (first | (go_at_call 208; (with_reducible refine (HU.out _ _ (hv'.up (by repeat' (first | (with_reducible exact Up.refl _) | (with_reducible assumption) | (with_reducible refine Up.alloc ?_ _) | (with_reducible refine Up.drew ?_) | (with_reducible refine Up.grow ?_ _) | (with_reducible refine Up.setCell ?_ (by (try simp); (try omega)) _))))).mono ?_); rintro e w' ⟨rfl, hb⟩; first | (obtain ⟨x, rfl⟩ := Grow.on x hb) | (obtain ⟨x, rfl⟩ := Grow.mk' hb)) | (go_at_call 180; (with_reducible refine (HA.out _ _ (ht.up (by repeat' (first | (with_reducible exact Up.refl _) | (with_reducible assumption) | (with_reducible refine Up.alloc ?_ _) | (with_reducible refine Up.drew ?_) | (with_reducible refine Up.grow ?_ _) | (with_reducible refine Up.setCell ?_ (by (try simp); (try omega)) _))))).mono ?_); rintro e w' ⟨rfl, hb⟩; first | (obtain ⟨x, rfl⟩ := Grow.on x hb) | (obtain ⟨x, rfl⟩ := Grow.mk' hb)) | (go_at_call 218; (with_reducible refine (s_In _ _ _ _).mono ?_); rintro e w' ⟨rfl, rfl⟩) | (go_at_call 227; (with_reducible refine (i_In _ _ _ _).mono ?_); rintro e w' ⟨rfl, rfl⟩) | (go_at_call 287; (with_reducible refine (s_Rate _ _).mono ?_); rintro e w' ⟨rfl, rfl⟩) | (go_at_call 248; (with_reducible refine (i_Rate _ _).mono ?_); rintro e w' ⟨rfl, rfl⟩) | (go_at_call 323; (with_reducible refine (i_Years _ _).mono ?_); rintro e w' ⟨rfl, rfl⟩) | (go_at_call 292; (with_reducible refine (s_Amount6 _ _).mono ?_); rintro e w' ⟨rfl, rfl⟩) | (go_at_call 226; (with_reducible refine (s_Sum7 _ _).mono ?_); rintro e w' ⟨rfl, rfl⟩) | ((first | with_reducible refine wp_region_in x (by kernel_rfl) (by kernel_rfl) ?_ | with_reducible refine wp_region_here (by kernel_rfl) (by kernel_rfl) ?_); (repeat (go_big_quiet_step ((first | (go_at_call 208; with_reducible exact Ret.grow _ (HU.out _ _ (hv'.up (by repeat' (first | (with_reducible exact Up.refl _) | (with_reducible assumption) | (with_reducible refine Up.alloc ?_ _) | (with_reducible refine Up.drew ?_) | (with_reducible refine Up.grow ?_ _) | (with_reducible refine Up.setCell ?_ (by (try simp); (try omega)) _)))))) | (go_at_call 180; with_reducible exact Ret.grow _ (HA.out _ _ (ht.up (by repeat' (first | (with_reducible exact Up.refl _) | (with_reducible assumption) | (with_reducible refine Up.alloc ?_ _) | (with_reducible refine Up.drew ?_) | (with_reducible refine Up.grow ?_ _) | (with_reducible refine Up.setCell ?_ (by (try simp); (try omega)) _)))))) | (go_at_call 218; with_reducible exact Ret.same _ (s_In _ _ _ _)) | (go_at_call 227; with_reducible exact Ret.same _ (i_In _ _ _ _)) | (go_at_call 287; with_reducible exact Ret.same _ (s_Rate _ _)) | (go_at_call 248; with_reducible exact Ret.same _ (i_Rate _ _)) | (go_at_call 323; with_reducible exact Ret.same _ (i_Years _ _)) | (go_at_call 292; with_reducible exact Ret.same _ (s_Amount6 _ _)) | (go_at_call 226; with_reducible exact Ret.same _ (s_Sum7 _ _)))))); refine wpQuiet_nil ?_; intro w' hw'; obtain ⟨x, rfl⟩ := hw'))
        go_roundw
        case rel => exact ⟨y + 1, ⟨x.to, show Up _ x.to from (by repeat' (first | (with_reducible exact Up.refl _) | (with_reducible assumption) | (with_reducible refine Up.alloc ?_ _) | (with_reducible refine Up.drew ?_) | (with_reducible refine Up.grow ?_ _) | (with_reducible refine Up.setCell ?_ (by (try simp); (try omega)) _)))⟩, by omega, by rw [E2.out]; go_num, by go_num, rfl, hB9.up (show Up z.to x.to from (by repeat' (first | (with_reducible exact Up.refl _) | (with_reducible assumption) | (with_reducible refine Up.alloc ?_ _) | (with_reducible refine Up.drew ?_) | (with_reducible refine Up.grow ?_ _) | (with_reducible refine Up.setCell ?_ (by (try simp); (try omega)) _))))⟩
        case measure => simp [intOf]; omega
      · have E2 : Hid (ky P (y + 1) = ky P y) := Lib.hid (by rw [E.out, HK, if_neg (by simpa using hq)])
        clear HK
        go_wp2_with (first | (go_at_call 208; (with_reducible refine (HU.out _ _ (hv'.up (by repeat' (first | (with_reducible exact Up.refl _) | (with_reducible assumption) | (with_reducible refine Up.alloc ?_ _) | (with_reducible refine Up.drew ?_) | (with_reducible refine Up.grow ?_ _) | (with_reducible refine Up.setCell ?_ (by (try simp); (try omega)) _))))).mono ?_); rintro e w' ⟨rfl, hb⟩; first | (obtain ⟨x, rfl⟩ := Grow.on x hb) | (obtain ⟨x, rfl⟩ := Grow.mk' hb)) | (go_at_call 180; (with_reducible refine (HA.out _ _ (ht.up (by repeat' (first | (with_reducible exact Up.refl _) | (with_reducible assumption) | (with_reducible refine Up.alloc ?_ _) | (with_reducible refine Up.drew ?_) | (with_reducible refine Up.grow ?_ _) | (with_reducible refine Up.setCell ?_ (by (try simp); (try omega)) _))))).mono ?_); rintro e w' ⟨rfl, hb⟩; first | (obtain ⟨x, rfl⟩ := Grow.on x hb) | (obtain ⟨x, rfl⟩ := Grow.mk' hb)) | (go_at_call 218; (with_reducible refine (s_In _ _ _ _).mono ?_); rintro e w' ⟨rfl, rfl⟩) | (go_at_call 227; (with_reducible refine (i_In _ _ _ _).mono ?_); rintro e w' ⟨rfl, rfl⟩) | (go_at_call 287; (with_reducible refine (s_Rate _ _).mono ?_); rintro e w' ⟨rfl, rfl⟩) | (go_at_call 248; (with_reducible refine (i_Rate _ _).mono ?_); rintro e w' ⟨rfl, rfl⟩) | (go_at_call 323; (with_reducible refine (i_Years _ _).mono ?_); rintro e w' ⟨rfl, rfl⟩) | (go_at_call 292; (with_reducible refine (s_Amount6 _ _).mono ?_); rintro e w' ⟨rfl, rfl⟩) | (go_at_call 226; (with_reducible refine (s_Sum7 _ _).mono ?_); rintro e w' ⟨rfl, rfl⟩) | ((first | with_reducible refine wp_region_in x (by kernel_rfl) (by kernel_rfl) ?_ | with_reducible refine wp_region_here (by kernel_rfl) (by kernel_rfl) ?_); (repeat (go_big_quiet_step ((first | (go_at_call 208; with_reducible exact Ret.grow _ (HU.out _ _ (hv'.up (by repeat' (first | (with_reducible exact Up.refl _) | (with_reducible assumption) | (with_reducible refine Up.alloc ?_ _) | (with_reducible refine Up.drew ?_) | (with_reducible refine Up.grow ?_ _) | (with_reducible refine Up.setCell ?_ (by (try simp); (try omega)) _)))))) | (go_at_call 180; with_reducible exact Ret.grow _ (HA.out _ _ (ht.up (by repeat' (first | (with_reducible exact Up.refl _) | (with_reducible assumption) | (with_reducible refine Up.alloc ?_ _) | (with_reducible refine Up.drew ?_) | (with_reducible refine Up.grow ?_ _) | (with_reducible refine Up.setCell ?_ (by (try simp); (try omega)) _)))))) | (go_at_call 218; with_reducible exact Ret.same _ (s_In _ _ _ _)) | (go_at_call 227; with_reducible exact Ret.same _ (i_In _ _ _ _)) | (go_at_call 287; with_reducible exact Ret.same _ (s_Rate _ _)) | (go_at_call 248; with_reducible exact Ret.same _ (i_Rate _ _)) | (go_at_call 323; with_reducible exact Ret.same _ (i_Years _ _)) | (go_at_call 292; with_reducible exact Ret.same _ (s_Amount6 _ _)) | (go_at_call 226; with_reducible exact Ret.same _ (s_Sum7 _ _)))))); refine wpQuiet_nil ?_; intro w' hw'; obtain ⟨x, rfl⟩ := hw'))
        go_roundw
        case rel => exact ⟨y + 1, ⟨x.to, show Up _ x.to from (by repeat' (first | (with_reducible exact Up.refl _) | (with_reducible assumption) | (with_reducible refine Up.alloc ?_ _) | (with_reducible refine Up.drew ?_) | (with_reducible refine Up.grow ?_ _) | (with_reducible refine Up.setCell ?_ (by (try simp); (try omega)) _)))⟩, by omega, by rw [E2.out], by go_num, rfl, hB9.up (show Up z.to x.to from (by repeat' (first | (with_reducible exact Up.refl _) | (with_reducible assumption) | (with_reducible refine Up.alloc ?_ _) | (with_reducible refine Up.drew ?_) | (with_reducible refine Up.grow ?_ _) | (with_reducible refine Up.setCell ?_ (by (try simp); (try omega)) _))))⟩
        case measure => simp [intOf]; omega
    · have g1 : ¬ (y : Int) + 1 ≤ M := by omega
      have hyM : y = M := by omega
      subst hyM
      go_wp2_with (first | (go_at_call 208; (with_reducible refine (HU.out _ _ (hv'.up (by repeat' (first | (with_reducible exact Up.refl _) | (with_reducible assumption) | (with_reducible refine Up.alloc ?_ _) | (with_reducible refine Up.drew ?_) | (with_reducible refine Up.grow ?_ _) | (with_reducible refine Up.setCell ?_ (by (try simp); (try omega)) _))))).mono ?_); rintro e w' ⟨rfl, hb⟩; first | (obtain ⟨x, rfl⟩ := Grow.on x hb) | (obtain ⟨x, rfl⟩ := Grow.mk' hb)) | (go_at_call 218; (with_reducible refine (s_In _ _ _ _).mono ?_); rintro e w' ⟨rfl, rfl⟩) | (go_at_call 227; (with_reducible refine (i_In _ _ _ _).mono ?_); rintro e w' ⟨rfl, rfl⟩) | (go_at_call 287; (with_reducible refine (s_Rate _ _).mono ?_); rintro e w' ⟨rfl, rfl⟩) | (go_at_call 248; (with_reducible refine (i_Rate _ _).mono ?_); rintro e w' ⟨rfl, rfl⟩) | (go_at_call 323; (with_reducible refine (i_Years _ _).mono ?_); rintro e w' ⟨rfl, rfl⟩) | (go_at_call 292; (with_reducible refine (s_Amount6 _ _).mono ?_); rintro e w' ⟨rfl, rfl⟩) | (go_at_call 226; (with_reducible refine (s_Sum7 _ _).mono ?_); rintro e w' ⟨rfl, rfl⟩) | ((first | with_reducible refine wp_region_in x (by kernel_rfl) (by kernel_rfl) ?_ | with_reducible refine wp_region_here (by kernel_rfl) (by kernel_rfl) ?_); (repeat (go_big_quiet_step ((first | (go_at_call 208; with_reducible exact Ret.grow _ (HU.out _ _ (hv'.up (by repeat' (first | (with_reducible exact Up.refl _) | (with_reducible assumption) | (with_reducible refine Up.alloc ?_ _) | (with_reducible refine Up.drew ?_) | (with_reducible refine Up.grow ?_ _) | (with_reducible refine Up.setCell ?_ (by (try simp); (try omega)) _)))))) | (go_at_call 218; with_reducible exact Ret.same _ (s_In _ _ _ _)) | (go_at_call 227; with_reducible exact Ret.same _ (i_In _ _ _ _)) | (go_at_call 287; with_reducible exact Ret.same _ (s_Rate _ _)) | (go_at_call 248; with_reducible exact Ret.same _ (i_Rate _ _)) | (go_at_call 323; with_reducible exact Ret.same _ (i_Years _ _)) | (go_at_call 292; with_reducible exact Ret.same _ (s_Amount6 _ _)) | (go_at_call 226; with_reducible exact Ret.same _ (s_Sum7 _ _)))))); refine wpQuiet_nil ?_; intro w' hw'; obtain ⟨x, rfl⟩ := hw'))
      go_ret2
      exact ⟨rfl, (by repeat' (first | (with_reducible exact Up.refl _) | (with_reducible assumption) | (with_reducible refine Up.alloc ?_ _) | (with_reducible refine Up.drew ?_) | (with_reducible refine Up.grow ?_ _) | (with_reducible refine Up.setCell ?_ (by (try simp); (try omega)) _)))⟩
end Go.Proofs.Ytklnikaakpebnaa
