/- The worst source, both sides. Condition: none (a year that is not valid has code 1). -/
import Derived.Test.YtdeoampkbbbleaaSur2
import Derived.Test.YtdeoampkbbbleaaS13b
namespace Go.Proofs.Ytdeoampkbbbleaa
open Go.RowKit Pu
set_option linter.unusedVariables false
set_option linter.unusedSimpArgs false

/-- The sources, one by one. -/
def Yr.sg (y : Yr) (r : Int) (i : Nat) : Int := (y.src r).getD i 0
theorem Yr.src_map (y : Yr) (r : Int) : y.src r = (List.range 3).map (y.sg r) := by
  unfold Yr.sg Yr.src
  rfl
/-- The worst source. -/
def Yr.ws (y : Yr) (r : Int) : Nat := bst (fun i => -(y.sg r i)) 3
set_option maxRecDepth 100000 in
set_option maxHeartbeats 2000000 in
theorem i_Worst (y : Yr) (r : Int) (w : World) : Calls Try.prog 42 #[y.v, .int .i64 r] w (Ret w (.tuple #[.int .i64 (if y.code r = 0 then y.ws r else 0), .int .i64 (y.code r)])) := by
  have HI := fun (w : World) => i_SourcesOf y r w
  have HC := Lib.hid fun (w : World) => s_Code18 y r w
  by_cases hz : y.code r = 0
  case neg =>
    unfold Yr.srcs at HI
    rw [if_neg hz] at HI ⊢
    replace HI := Lib.hid HI
    generalize y.code r = k at *
    have hk : (k == 0) = false := by simpa using hz
    obtain ⟨a0, a1, a2, a3, a4, a5, a6⟩ := y
    simp only [Yr.v] at *
    go_enter Try.func42, Try.ntmps42
    go_wp2_with (first | (go_at_call 40; (with_reducible refine (HI.out _).mono ?_); rintro e w5 ⟨vl, rfl, hb5, hown⟩; obtain ⟨x, rfl⟩ := Grow.mk' hb5) | (go_at_call 167; refine (HC.out _).mono ?_; rintro e w' ⟨rfl, hb⟩; first | (obtain ⟨x, rfl⟩ := Grow.on x hb) | (obtain ⟨x, rfl⟩ := Grow.mk' hb)))
    go_ret2
    exact ⟨rfl, (by repeat' (first | (with_reducible exact Up.refl _) | (with_reducible assumption) | (with_reducible refine Up.alloc ?_ _) | (with_reducible refine Up.drew ?_) | (with_reducible refine Up.grow ?_ _) | (with_reducible refine Up.setCell ?_ (by (try simp); (try omega)) _)))⟩
  have hO := y.code_zero hz
  have HS := Lib.hid fun (w : World) => s_Sources18 y hO.1 r hO.2.1 hO.2.2 w
  unfold Yr.srcs at HI
  rw [if_pos hz, hz] at HI
  rw [if_pos hz, hz]
  rw [hz] at HC
  rw [y.src_map r] at HI HS
  unfold Yr.ws
  generalize y.sg r = G at *
  obtain ⟨H, hH⟩ : ∃ H : Nat → Int, H = fun i => -(G i) := ⟨_, rfl⟩
  rw [← hH]
  have HG := Lib.hid (fun i => congrFun hH i)
  obtain ⟨BU, hBU⟩ : ∃ x, bst H 3 = x := ⟨_, rfl⟩
  rw [hBU]
  have HBU := Lib.hid hBU
  have h1 : bst H 1 = 0 := by rw [bst_succ]; split <;> rfl
  replace h1 := Lib.hid h1
  replace HI := Lib.hid HI
  obtain ⟨a0, a1, a2, a3, a4, a5, a6⟩ := y
  simp only [Yr.v] at *
  clear hz hO hH hBU
  go_enter Try.func42, Try.ntmps42
  go_wp2_with (first | (go_at_call 40; (with_reducible refine (HI.out _).mono ?_); rintro e w5 ⟨vl, rfl, hb5, hown⟩; obtain ⟨g, c5, rfl, k1, k2, k3, hcell⟩ := hown.fn (by omega)) | (go_at_call 168; (with_reducible refine (HS.out _).mono ?_); rintro e w5 ⟨vl, rfl, hb5, hown⟩; obtain ⟨g, c5, rfl, k1, k2, k3, hcell⟩ := hown.fn (by omega)) | (go_at_call 167; refine (HC.out _).mono ?_; rintro e w' ⟨rfl, hb⟩; first | (obtain ⟨x, rfl⟩ := Grow.on x hb) | (obtain ⟨x, rfl⟩ := Grow.mk' hb)))
  have hup5 : Up w w5 := Up.trans (by repeat' (first | (with_reducible exact Up.refl _) | (with_reducible assumption) | (with_reducible refine Up.alloc ?_ _) | (with_reducible refine Up.drew ?_) | (with_reducible refine Up.grow ?_ _) | (with_reducible refine Up.setCell ?_ (by (try simp); (try omega)) _))) hb5
  have HCE := Lib.hid hcell
  clear hcell hown hb5
  go_loopw [8, 22] (fun bs i wr => ∃ (j : Nat) (y : Grow w5), 0 ≤ j ∧ j ≤ 3 ∧ i = .int .i64 j ∧ bs = .int .i64 (bst H j) ∧ wr = y.to) (fun _ i _ => 3 - (intOf i).toNat)
  case atStart => exact ⟨0, ⟨w5, Below.refl _ _⟩, by omega, by omega, rfl, by first | rfl | (rw [h1.out]; rfl), rfl⟩
  case round =>
    obtain ⟨j, x, hj0, hj, rfl, rfl, rfl⟩ := hrel
    by_cases hlt : j < 3
    · have hb := bst_lt H j
      have c1 := grow_fn k3 HCE.out hlt
      have c2 := grow_fn k3 HCE.out (show bst H j < 3 by omega)
      have E := Lib.hid (bst_succ H j)
      have hb2 : bst H j < 3 := by omega
      have hb3 : ((bst H j : Nat) : Int) < 3 := by omega
      have hl3 : (j : Int) < 3 := by omega
      have i1 : IntKind.i64.wrap ((j : Int) + 1) = (j : Int) + 1 := IntWalk.i64_in _ (by omega)
      generalize bst H j = B at *
      by_cases hg : G j < G B
      · have E2 := Lib.hid (show bst H (j + 1) = j by rw [E.out, HG.out, HG.out, if_pos (by omega)])
        go_wp2_with ((first | with_reducible refine wp_region_in x (by kernel_rfl) (by kernel_rfl) ?_ | with_reducible refine wp_region_here (by kernel_rfl) (by kernel_rfl) ?_); (repeat (go_big_quiet_step ((fail)))); refine wpQuiet_nil ?_; intro w' hw'; obtain ⟨x, rfl⟩ := hw')
        go_roundw
        case rel => exact ⟨j + 1, x, by omega, by omega, by go_num, by rw [E2.out], rfl⟩
        case measure => simp [intOf]; omega
      · have E2 := Lib.hid (show bst H (j + 1) = B by rw [E.out, HG.out, HG.out, if_neg (by omega)])
        go_wp2_with ((first | with_reducible refine wp_region_in x (by kernel_rfl) (by kernel_rfl) ?_ | with_reducible refine wp_region_here (by kernel_rfl) (by kernel_rfl) ?_); (repeat (go_big_quiet_step ((fail)))); refine wpQuiet_nil ?_; intro w' hw'; obtain ⟨x, rfl⟩ := hw')
        go_roundw
        case rel => exact ⟨j + 1, x, by omega, by omega, by go_num, by rw [E2.out], rfl⟩
        case measure => simp [intOf]; omega
    · have hjU : j = 3 := by omega
      subst hjU
      have E2 := HBU.out
      rw [E2]
      go_wp2_with ((first | with_reducible refine wp_region_in x (by kernel_rfl) (by kernel_rfl) ?_ | with_reducible refine wp_region_here (by kernel_rfl) (by kernel_rfl) ?_); (repeat (go_big_quiet_step ((fail)))); refine wpQuiet_nil ?_; intro w' hw'; obtain ⟨x, rfl⟩ := hw')
      go_ret2
      exact ⟨rfl, hup5.trans (by repeat' (first | (with_reducible exact Up.refl _) | (with_reducible assumption) | (with_reducible refine Up.alloc ?_ _) | (with_reducible refine Up.drew ?_) | (with_reducible refine Up.grow ?_ _) | (with_reducible refine Up.setCell ?_ (by (try simp); (try omega)) _)))⟩
set_option maxRecDepth 100000 in
set_option maxHeartbeats 2000000 in
theorem s_Worst (y : Yr) (r : Int) (w : World) : Calls Try.prog 43 #[y.v, .int .i64 r] w (Ret w (.tuple #[.int .i64 (if y.code r = 0 then y.ws r else 0), .int .i64 (y.code r)])) := by
  have HI := fun (w : World) => i_SourcesOf y r w
  have HC := Lib.hid fun (w : World) => s_Code18 y r w
  by_cases hz : y.code r = 0
  case neg =>
    unfold Yr.srcs at HI
    rw [if_neg hz] at HI ⊢
    replace HI := Lib.hid HI
    generalize y.code r = k at *
    have hk : (k == 0) = false := by simpa using hz
    obtain ⟨a0, a1, a2, a3, a4, a5, a6⟩ := y
    simp only [Yr.v] at *
    go_enter Try.func43, Try.ntmps43
    go_wp2_with (first | (go_at_call 40; (with_reducible refine (HI.out _).mono ?_); rintro e w5 ⟨vl, rfl, hb5, hown⟩; obtain ⟨x, rfl⟩ := Grow.mk' hb5) | (go_at_call 167; refine (HC.out _).mono ?_; rintro e w' ⟨rfl, hb⟩; first | (obtain ⟨x, rfl⟩ := Grow.on x hb) | (obtain ⟨x, rfl⟩ := Grow.mk' hb)))
    go_ret2
    exact ⟨rfl, (by repeat' (first | (with_reducible exact Up.refl _) | (with_reducible assumption) | (with_reducible refine Up.alloc ?_ _) | (with_reducible refine Up.drew ?_) | (with_reducible refine Up.grow ?_ _) | (with_reducible refine Up.setCell ?_ (by (try simp); (try omega)) _)))⟩
  have hO := y.code_zero hz
  have HS := Lib.hid fun (w : World) => s_Sources18 y hO.1 r hO.2.1 hO.2.2 w
  unfold Yr.srcs at HI
  rw [if_pos hz, hz] at HI
  rw [if_pos hz, hz]
  rw [hz] at HC
  rw [y.src_map r] at HI HS
  unfold Yr.ws
  generalize y.sg r = G at *
  obtain ⟨H, hH⟩ : ∃ H : Nat → Int, H = fun i => -(G i) := ⟨_, rfl⟩
  rw [← hH]
  have HG := Lib.hid (fun i => congrFun hH i)
  obtain ⟨BU, hBU⟩ : ∃ x, bst H 3 = x := ⟨_, rfl⟩
  rw [hBU]
  have HBU := Lib.hid hBU
  have h1 : bst H 1 = 0 := by rw [bst_succ]; split <;> rfl
  replace h1 := Lib.hid h1
  replace HI := Lib.hid HI
  obtain ⟨a0, a1, a2, a3, a4, a5, a6⟩ := y
  simp only [Yr.v] at *
  clear hz hO hH hBU
  go_enter Try.func43, Try.ntmps43
  go_wp2_with (first | (go_at_call 40; (with_reducible refine (HI.out _).mono ?_); rintro e w5 ⟨vl, rfl, hb5, hown⟩; obtain ⟨g, c5, rfl, k1, k2, k3, hcell⟩ := hown.fn (by omega)) | (go_at_call 168; (with_reducible refine (HS.out _).mono ?_); rintro e w5 ⟨vl, rfl, hb5, hown⟩; obtain ⟨g, c5, rfl, k1, k2, k3, hcell⟩ := hown.fn (by omega)) | (go_at_call 167; refine (HC.out _).mono ?_; rintro e w' ⟨rfl, hb⟩; first | (obtain ⟨x, rfl⟩ := Grow.on x hb) | (obtain ⟨x, rfl⟩ := Grow.mk' hb)))
  have hup5 : Up w w5 := Up.trans (by repeat' (first | (with_reducible exact Up.refl _) | (with_reducible assumption) | (with_reducible refine Up.alloc ?_ _) | (with_reducible refine Up.drew ?_) | (with_reducible refine Up.grow ?_ _) | (with_reducible refine Up.setCell ?_ (by (try simp); (try omega)) _))) hb5
  have HCE := Lib.hid hcell
  clear hcell hown hb5
  go_loopw [8, 9] (fun bs i wr => ∃ (j : Nat) (y : Grow w5), 1 ≤ j ∧ j ≤ 3 ∧ i = .int .i64 j ∧ bs = .int .i64 (bst H j) ∧ wr = y.to) (fun _ i _ => 3 - (intOf i).toNat)
  case atStart => exact ⟨1, ⟨w5, Below.refl _ _⟩, by omega, by omega, rfl, by first | rfl | (rw [h1.out]; rfl), rfl⟩
  case round =>
    obtain ⟨j, x, hj0, hj, rfl, rfl, rfl⟩ := hrel
    by_cases hlt : j < 3
    · have hb := bst_lt H j
      have c1 := grow_fn k3 HCE.out hlt
      have c2 := grow_fn k3 HCE.out (show bst H j < 3 by omega)
      have E := Lib.hid (bst_succ H j)
      have hb2 : bst H j < 3 := by omega
      have hb3 : ((bst H j : Nat) : Int) < 3 := by omega
      have hl3 : (j : Int) < 3 := by omega
      have i1 : IntKind.i64.wrap ((j : Int) + 1) = (j : Int) + 1 := IntWalk.i64_in _ (by omega)
      generalize bst H j = B at *
      by_cases hg : G j < G B
      · have E2 := Lib.hid (show bst H (j + 1) = j by rw [E.out, HG.out, HG.out, if_pos (by omega)])
        go_wp2_with ((first | with_reducible refine wp_region_in x (by kernel_rfl) (by kernel_rfl) ?_ | with_reducible refine wp_region_here (by kernel_rfl) (by kernel_rfl) ?_); (repeat (go_big_quiet_step ((fail)))); refine wpQuiet_nil ?_; intro w' hw'; obtain ⟨x, rfl⟩ := hw')
        go_roundw
        case rel => exact ⟨j + 1, x, by omega, by omega, by go_num, by rw [E2.out], rfl⟩
        case measure => simp [intOf]; omega
      · have E2 := Lib.hid (show bst H (j + 1) = B by rw [E.out, HG.out, HG.out, if_neg (by omega)])
        go_wp2_with ((first | with_reducible refine wp_region_in x (by kernel_rfl) (by kernel_rfl) ?_ | with_reducible refine wp_region_here (by kernel_rfl) (by kernel_rfl) ?_); (repeat (go_big_quiet_step ((fail)))); refine wpQuiet_nil ?_; intro w' hw'; obtain ⟨x, rfl⟩ := hw')
        go_roundw
        case rel => exact ⟨j + 1, x, by omega, by omega, by go_num, by rw [E2.out], rfl⟩
        case measure => simp [intOf]; omega
    · have hjU : j = 3 := by omega
      subst hjU
      have E2 := HBU.out
      rw [E2]
      go_wp2_with ((first | with_reducible refine wp_region_in x (by kernel_rfl) (by kernel_rfl) ?_ | with_reducible refine wp_region_here (by kernel_rfl) (by kernel_rfl) ?_); (repeat (go_big_quiet_step ((fail)))); refine wpQuiet_nil ?_; intro w' hw'; obtain ⟨x, rfl⟩ := hw')
      go_ret2
      exact ⟨rfl, hup5.trans (by repeat' (first | (with_reducible exact Up.refl _) | (with_reducible assumption) | (with_reducible refine Up.alloc ?_ _) | (with_reducible refine Up.drew ?_) | (with_reducible refine Up.grow ?_ _) | (with_reducible refine Up.setCell ?_ (by (try simp); (try omega)) _)))⟩
end Go.Proofs.Ytdeoampkbbbleaa
