/- AgePortfolio of the reference: the walk. Condition: the slices read as the table's numbers, the holdings and the deaths. AgePortfolio of the reference: the way of code 0 and 5. Condition: the slices read as the table's numbers, the holdings and the deaths. AgePortfolio of the program: checkDeaths and the parts of a holding. Condition: the slices read as the table's numbers, the holdings and the deaths. AgePortfolio of the program: the walk. Condition: the slices read as the table's numbers, the holdings and the deaths. The law of AgePortfolio: the walk. Condition: the slices read as the table's numbers, the holdings and the deaths. -/
import Derived.Test.YtdeoampkbbbleaaAgeD
import Derived.Test.YtdeoampkbbbleaaHoldM
import Derived.Test.YtdeoampkbbbleaaICols
namespace Go.Proofs.Ytdeoampkbbbleaa
open Go.RowKit Pu
set_option linter.unusedVariables false
set_option linter.unusedSimpArgs false

theorem s_Age1 (T : Tab) (r : Int) (n : Nat) (g : Nat → Nat → Int) (m : Nat) (d : Nat → Int) (hn : n ≤ 1048576) (hB : portB T r n g = false) (v vl vd : Value) (w : World) (hv : BasAt w T r v) (hl : HAt w vl n g) (hd : DAt w vd m d) :
    Calls Try.prog 28 #[v, vl, vd] w (RetAge w 0 (fun _ _ => 0) 1) := by
  have HP := Lib.hid fun v vl w => s_IsPort T r n g hn false hB v vl w
  (have hv' := hv; obtain ⟨A, c, rfl, hc, hm, hbig, hI⟩ := hv; have ht : TabAt w T (.agg #[.int .i64 T.first, .slice A T.n c]) := ⟨A, c, rfl, hc, hm, hbig, hI⟩)
  have HL2 := Lib.hid hl
  clear hB
  obtain ⟨A2, c2, rfl, _, _, hHI⟩ := hl
  obtain ⟨A3, c3, rfl, _, _, hDI⟩ := hd
  go_enter Try.func28, Try.ntmps28
  go_wp2_with (first | (go_at_call 20; (with_reducible refine (HP.out _ _ _ (hv'.up (by repeat' (first | (with_reducible exact Up.refl _) | (with_reducible assumption) | (with_reducible refine Up.alloc ?_ _) | (with_reducible refine Up.drew ?_) | (with_reducible refine Up.grow ?_ _) | (with_reducible refine Up.setCell ?_ (by (try simp); (try omega)) _)))) (HL2.out.up (by repeat' (first | (with_reducible exact Up.refl _) | (with_reducible assumption) | (with_reducible refine Up.alloc ?_ _) | (with_reducible refine Up.drew ?_) | (with_reducible refine Up.grow ?_ _) | (with_reducible refine Up.setCell ?_ (by (try simp); (try omega)) _))))).mono ?_); rintro e w' ⟨rfl, hb⟩; first | (obtain ⟨x, rfl⟩ := Grow.on x hb) | (obtain ⟨x, rfl⟩ := Grow.mk' hb)) | (go_at_call 142; (with_reducible refine (s_In _ _ _ _).mono ?_); rintro e w' ⟨rfl, rfl⟩) | (go_at_call 186; (with_reducible refine (i_In _ _ _ _).mono ?_); rintro e w' ⟨rfl, rfl⟩) | (go_at_call 222; (with_reducible refine (s_Rate _ _).mono ?_); rintro e w' ⟨rfl, rfl⟩) | (go_at_call 165; (with_reducible refine (i_Rate _ _).mono ?_); rintro e w' ⟨rfl, rfl⟩) | (go_at_call 262; (with_reducible refine (i_Years _ _).mono ?_); rintro e w' ⟨rfl, rfl⟩) | (go_at_call 227; (with_reducible refine (s_Amount6 _ _).mono ?_); rintro e w' ⟨rfl, rfl⟩) | (go_at_call 236; (with_reducible refine (s_Sum7 _ _).mono ?_); rintro e w' ⟨rfl, rfl⟩) | ((first | with_reducible refine wp_region_in x (by kernel_rfl) (by kernel_rfl) ?_ | with_reducible refine wp_region_here (by kernel_rfl) (by kernel_rfl) ?_); (repeat (go_big_quiet_step ((first | (go_at_call 20; with_reducible exact Ret.grow _ (HP.out _ _ _ (hv'.up (by repeat' (first | (with_reducible exact Up.refl _) | (with_reducible assumption) | (with_reducible refine Up.alloc ?_ _) | (with_reducible refine Up.drew ?_) | (with_reducible refine Up.grow ?_ _) | (with_reducible refine Up.setCell ?_ (by (try simp); (try omega)) _)))) (HL2.out.up (by repeat' (first | (with_reducible exact Up.refl _) | (with_reducible assumption) | (with_reducible refine Up.alloc ?_ _) | (with_reducible refine Up.drew ?_) | (with_reducible refine Up.grow ?_ _) | (with_reducible refine Up.setCell ?_ (by (try simp); (try omega)) _)))))) | (go_at_call 142; with_reducible exact Ret.same _ (s_In _ _ _ _)) | (go_at_call 186; with_reducible exact Ret.same _ (i_In _ _ _ _)) | (go_at_call 222; with_reducible exact Ret.same _ (s_Rate _ _)) | (go_at_call 165; with_reducible exact Ret.same _ (i_Rate _ _)) | (go_at_call 262; with_reducible exact Ret.same _ (i_Years _ _)) | (go_at_call 227; with_reducible exact Ret.same _ (s_Amount6 _ _)) | (go_at_call 236; with_reducible exact Ret.same _ (s_Sum7 _ _)))))); refine wpQuiet_nil ?_; intro w' hw'; obtain ⟨x, rfl⟩ := hw'))
  go_ret2
  exact ⟨_, rfl, (by repeat' (first | (with_reducible exact Up.refl _) | (with_reducible assumption) | (with_reducible refine Up.alloc ?_ _) | (with_reducible refine Up.drew ?_) | (with_reducible refine Up.grow ?_ _) | (with_reducible refine Up.setCell ?_ (by (try simp); (try omega)) _))), OwnH.nil _ _ _⟩
set_option maxRecDepth 100000 in
set_option maxHeartbeats 4000000 in
theorem s_Age2 (T : Tab) (r : Int) (n : Nat) (g : Nat → Nat → Int) (m : Nat) (d : Nat → Int) (hn : n ≤ 1048576) (hm2 : m ≤ 1048576) (hB : portB T r n g = true) (hin : ¬ inOk n g m d) (v vl vd : Value) (w : World) (hv : BasAt w T r v) (hl : HAt w vl n g) (hd : DAt w vd m d) :
    Calls Try.prog 28 #[v, vl, vd] w (RetAge w 0 (fun _ _ => 0) 2) := by
  have HP := Lib.hid fun v vl w => s_IsPort T r n g hn true hB v vl w
  (have hv' := hv; obtain ⟨A, c, rfl, hc, hm, hbig, hI⟩ := hv; have ht : TabAt w T (.agg #[.int .i64 T.first, .slice A T.n c]) := ⟨A, c, rfl, hc, hm, hbig, hI⟩)
  have HL2 := Lib.hid hl
  clear hB
  obtain ⟨A2, c2, rfl, _, _, hHI⟩ := hl
  have HHI := Lib.hid hHI
  obtain ⟨A3, c3, rfl, _, _, hDI⟩ := hd
  have HDI := Lib.hid hDI
  clear hHI hDI hI ht
  by_cases hmn : m = n
  case neg =>
    have hmb : ((m : Int) == (n : Int)) = false := by simp; omega
    clear hin hmn
    go_enter Try.func28, Try.ntmps28
    go_wp2_with (first | (go_at_call 20; (with_reducible refine (HP.out _ _ _ (hv'.up (by repeat' (first | (with_reducible exact Up.refl _) | (with_reducible assumption) | (with_reducible refine Up.alloc ?_ _) | (with_reducible refine Up.drew ?_) | (with_reducible refine Up.grow ?_ _) | (with_reducible refine Up.setCell ?_ (by (try simp); (try omega)) _)))) (HL2.out.up (by repeat' (first | (with_reducible exact Up.refl _) | (with_reducible assumption) | (with_reducible refine Up.alloc ?_ _) | (with_reducible refine Up.drew ?_) | (with_reducible refine Up.grow ?_ _) | (with_reducible refine Up.setCell ?_ (by (try simp); (try omega)) _))))).mono ?_); rintro e w' ⟨rfl, hb⟩; first | (obtain ⟨x, rfl⟩ := Grow.on x hb) | (obtain ⟨x, rfl⟩ := Grow.mk' hb)) | (go_at_call 142; (with_reducible refine (s_In _ _ _ _).mono ?_); rintro e w' ⟨rfl, rfl⟩) | (go_at_call 186; (with_reducible refine (i_In _ _ _ _).mono ?_); rintro e w' ⟨rfl, rfl⟩) | (go_at_call 222; (with_reducible refine (s_Rate _ _).mono ?_); rintro e w' ⟨rfl, rfl⟩) | (go_at_call 165; (with_reducible refine (i_Rate _ _).mono ?_); rintro e w' ⟨rfl, rfl⟩) | (go_at_call 262; (with_reducible refine (i_Years _ _).mono ?_); rintro e w' ⟨rfl, rfl⟩) | (go_at_call 227; (with_reducible refine (s_Amount6 _ _).mono ?_); rintro e w' ⟨rfl, rfl⟩) | (go_at_call 236; (with_reducible refine (s_Sum7 _ _).mono ?_); rintro e w' ⟨rfl, rfl⟩) | ((first | with_reducible refine wp_region_in x (by kernel_rfl) (by kernel_rfl) ?_ | with_reducible refine wp_region_here (by kernel_rfl) (by kernel_rfl) ?_); (repeat (go_big_quiet_step ((first | (go_at_call 20; with_reducible exact Ret.grow _ (HP.out _ _ _ (hv'.up (by repeat' (first | (with_reducible exact Up.refl _) | (with_reducible assumption) | (with_reducible refine Up.alloc ?_ _) | (with_reducible refine Up.drew ?_) | (with_reducible refine Up.grow ?_ _) | (with_reducible refine Up.setCell ?_ (by (try simp); (try omega)) _)))) (HL2.out.up (by repeat' (first | (with_reducible exact Up.refl _) | (with_reducible assumption) | (with_reducible refine Up.alloc ?_ _) | (with_reducible refine Up.drew ?_) | (with_reducible refine Up.grow ?_ _) | (with_reducible refine Up.setCell ?_ (by (try simp); (try omega)) _)))))) | (go_at_call 142; with_reducible exact Ret.same _ (s_In _ _ _ _)) | (go_at_call 186; with_reducible exact Ret.same _ (i_In _ _ _ _)) | (go_at_call 222; with_reducible exact Ret.same _ (s_Rate _ _)) | (go_at_call 165; with_reducible exact Ret.same _ (i_Rate _ _)) | (go_at_call 262; with_reducible exact Ret.same _ (i_Years _ _)) | (go_at_call 227; with_reducible exact Ret.same _ (s_Amount6 _ _)) | (go_at_call 236; with_reducible exact Ret.same _ (s_Sum7 _ _)))))); refine wpQuiet_nil ?_; intro w' hw'; obtain ⟨x, rfl⟩ := hw'))
    go_loopw [8, 9] (fun a i wr => a = .bool false ∧ i = .int .i64 0 ∧ wr = x.to) (fun a i _ => 0)
    case atStart => exact ⟨rfl, rfl, rfl⟩
    case round =>
      obtain ⟨rfl, rfl, rfl⟩ := hrel
      go_wp2
      go_ret2
      exact ⟨_, rfl, (by repeat' (first | (with_reducible exact Up.refl _) | (with_reducible assumption) | (with_reducible refine Up.alloc ?_ _) | (with_reducible refine Up.drew ?_) | (with_reducible refine Up.grow ?_ _) | (with_reducible refine Up.setCell ?_ (by (try simp); (try omega)) _))), OwnH.nil _ _ _⟩
  subst hmn
  have HIN : Hid (¬ ∀ i, i < m → inR (d i) 0 (g i 6) = true) := Lib.hid fun h => hin ⟨rfl, h⟩
  clear hin
  go_enter Try.func28, Try.ntmps28
  go_wp2_with (first | (go_at_call 20; (with_reducible refine (HP.out _ _ _ (hv'.up (by repeat' (first | (with_reducible exact Up.refl _) | (with_reducible assumption) | (with_reducible refine Up.alloc ?_ _) | (with_reducible refine Up.drew ?_) | (with_reducible refine Up.grow ?_ _) | (with_reducible refine Up.setCell ?_ (by (try simp); (try omega)) _)))) (HL2.out.up (by repeat' (first | (with_reducible exact Up.refl _) | (with_reducible assumption) | (with_reducible refine Up.alloc ?_ _) | (with_reducible refine Up.drew ?_) | (with_reducible refine Up.grow ?_ _) | (with_reducible refine Up.setCell ?_ (by (try simp); (try omega)) _))))).mono ?_); rintro e w' ⟨rfl, hb⟩; first | (obtain ⟨x, rfl⟩ := Grow.on x hb) | (obtain ⟨x, rfl⟩ := Grow.mk' hb)) | (go_at_call 142; (with_reducible refine (s_In _ _ _ _).mono ?_); rintro e w' ⟨rfl, rfl⟩) | (go_at_call 186; (with_reducible refine (i_In _ _ _ _).mono ?_); rintro e w' ⟨rfl, rfl⟩) | (go_at_call 222; (with_reducible refine (s_Rate _ _).mono ?_); rintro e w' ⟨rfl, rfl⟩) | (go_at_call 165; (with_reducible refine (i_Rate _ _).mono ?_); rintro e w' ⟨rfl, rfl⟩) | (go_at_call 262; (with_reducible refine (i_Years _ _).mono ?_); rintro e w' ⟨rfl, rfl⟩) | (go_at_call 227; (with_reducible refine (s_Amount6 _ _).mono ?_); rintro e w' ⟨rfl, rfl⟩) | (go_at_call 236; (with_reducible refine (s_Sum7 _ _).mono ?_); rintro e w' ⟨rfl, rfl⟩) | ((first | with_reducible refine wp_region_in x (by kernel_rfl) (by kernel_rfl) ?_ | with_reducible refine wp_region_here (by kernel_rfl) (by kernel_rfl) ?_); (repeat (go_big_quiet_step ((first | (go_at_call 20; with_reducible exact Ret.grow _ (HP.out _ _ _ (hv'.up (by repeat' (first | (with_reducible exact Up.refl _) | (with_reducible assumption) | (with_reducible refine Up.alloc ?_ _) | (with_reducible refine Up.drew ?_) | (with_reducible refine Up.grow ?_ _) | (with_reducible refine Up.setCell ?_ (by (try simp); (try omega)) _)))) (HL2.out.up (by repeat' (first | (with_reducible exact Up.refl _) | (with_reducible assumption) | (with_reducible refine Up.alloc ?_ _) | (with_reducible refine Up.drew ?_) | (with_reducible refine Up.grow ?_ _) | (with_reducible refine Up.setCell ?_ (by (try simp); (try omega)) _)))))) | (go_at_call 142; with_reducible exact Ret.same _ (s_In _ _ _ _)) | (go_at_call 186; with_reducible exact Ret.same _ (i_In _ _ _ _)) | (go_at_call 222; with_reducible exact Ret.same _ (s_Rate _ _)) | (go_at_call 165; with_reducible exact Ret.same _ (i_Rate _ _)) | (go_at_call 262; with_reducible exact Ret.same _ (i_Years _ _)) | (go_at_call 227; with_reducible exact Ret.same _ (s_Amount6 _ _)) | (go_at_call 236; with_reducible exact Ret.same _ (s_Sum7 _ _)))))); refine wpQuiet_nil ?_; intro w' hw'; obtain ⟨x, rfl⟩ := hw'))
  go_loopw [8, 9] (fun a i wr => ∃ (k : Nat) (y : Grow (w.alloc (.cells #[.int .i64 T.first, .slice A T.n c, .int .i64 r] 33))) (B : Bool), k ≤ m ∧ i = .int .i64 k ∧ a = .bool B ∧ wr = y.to ∧ Hid (B = true → ∀ j, j < k → inR (d j) 0 (g j 6) = true)) (fun a i _ => m - (intOf i).toNat)
  case atStart => exact ⟨0, x, true, Nat.zero_le _, rfl, by simp, rfl, Lib.hid fun _ j hj => by omega⟩
  case round =>
    clear hb x
    obtain ⟨k, x, B, hk, rfl, rfl, rfl, HK⟩ := hrel
    cases B with
    | false =>
      go_wp2
      go_ret2
      exact ⟨_, rfl, (by repeat' (first | (with_reducible exact Up.refl _) | (with_reducible assumption) | (with_reducible refine Up.alloc ?_ _) | (with_reducible refine Up.drew ?_) | (with_reducible refine Up.grow ?_ _) | (with_reducible refine Up.setCell ?_ (by (try simp); (try omega)) _))), OwnH.nil _ _ _⟩
    | true =>
      by_cases hlt : k < m
      · obtain ⟨b2, off2, rfl, ib, e0, e1, e2, e3, e4, e5, e6⟩ := (HHI.out.up (Up.alloc (Up.refl w) (.cells #[.int .i64 T.first, .slice A T.n c, .int .i64 r] 33))).seven hlt
        obtain ⟨b3, off3, rfl, ib3, f0⟩ := (HDI.out.up (Up.alloc (Up.refl w) (.cells #[.int .i64 T.first, .slice A T.n c, .int .i64 r] 33))) k hlt
        have c6 : ∀ y : Grow (w.alloc (.cells #[.int .i64 T.first, .slice A T.n c, .int .i64 r] 33)), y.to.cell? ⟨b2, off2 + k * 7 + 6, none⟩ = some (.int .i64 (g k 6)) := fun y => (y.below.cell (p := ⟨b2, off2 + k * 7 + 6, none⟩) ib).trans e6
        have cd : ∀ y : Grow (w.alloc (.cells #[.int .i64 T.first, .slice A T.n c, .int .i64 r] 33)), y.to.cell? ⟨b3, off3 + k, none⟩ = some (.int .i64 (d k)) := fun y => (y.below.cell (p := ⟨b3, off3 + k, none⟩) ib3).trans f0
        clear e6 f0
        obtain ⟨V, hV⟩ : ∃ V, inR (d k) 0 (g k 6) = V := ⟨_, rfl⟩
        have HK2 : Hid (V = true → ∀ j, j < k + 1 → inR (d j) 0 (g j 6) = true) := Lib.hid fun hVt j hj => by
          rcases Nat.lt_or_ge j k with h | h
          · exact HK.out rfl j h
          · rw [show j = k from by omega, hV]; exact hVt
        clear e0 e1 e2 e3 e4 e5
        go_wp2_with (first | (go_at_call 142; (with_reducible refine (s_In _ _ _ _).mono ?_); rintro e w' ⟨rfl, hb⟩; first | (obtain ⟨x, rfl⟩ := Grow.on x hb) | (obtain ⟨x, rfl⟩ := Grow.mk' hb)) | (go_at_call 142; (with_reducible refine (s_In _ _ _ _).mono ?_); rintro e w' ⟨rfl, rfl⟩) | (go_at_call 186; (with_reducible refine (i_In _ _ _ _).mono ?_); rintro e w' ⟨rfl, rfl⟩) | (go_at_call 222; (with_reducible refine (s_Rate _ _).mono ?_); rintro e w' ⟨rfl, rfl⟩) | (go_at_call 165; (with_reducible refine (i_Rate _ _).mono ?_); rintro e w' ⟨rfl, rfl⟩) | (go_at_call 262; (with_reducible refine (i_Years _ _).mono ?_); rintro e w' ⟨rfl, rfl⟩) | (go_at_call 227; (with_reducible refine (s_Amount6 _ _).mono ?_); rintro e w' ⟨rfl, rfl⟩) | (go_at_call 236; (with_reducible refine (s_Sum7 _ _).mono ?_); rintro e w' ⟨rfl, rfl⟩) | ((first | with_reducible refine wp_region_in x (by kernel_rfl) (by kernel_rfl) ?_ | with_reducible refine wp_region_here (by kernel_rfl) (by kernel_rfl) ?_); (repeat (go_big_quiet_step ((first | (go_at_call 142; with_reducible exact Ret.grow _ (s_In _ _ _ _)) | (go_at_call 142; with_reducible exact Ret.same _ (s_In _ _ _ _)) | (go_at_call 186; with_reducible exact Ret.same _ (i_In _ _ _ _)) | (go_at_call 222; with_reducible exact Ret.same _ (s_Rate _ _)) | (go_at_call 165; with_reducible exact Ret.same _ (i_Rate _ _)) | (go_at_call 262; with_reducible exact Ret.same _ (i_Years _ _)) | (go_at_call 227; with_reducible exact Ret.same _ (s_Amount6 _ _)) | (go_at_call 236; with_reducible exact Ret.same _ (s_Sum7 _ _)))))); refine wpQuiet_nil ?_; intro w' hw'; obtain ⟨x, rfl⟩ := hw'))
        go_roundw
        case rel => exact ⟨k + 1, _, V, by omega, by go_num, by rw [← hV], rfl, HK2⟩
        case measure => simp [intOf]; omega
      · exact absurd (fun j hj => HK.out rfl j (by omega)) HIN.out
end Go.Proofs.Ytdeoampkbbbleaa
namespace Go.Proofs.Ytdeoampkbbbleaa
open Go.RowKit Pu
set_option linter.unusedVariables false
set_option linter.unusedSimpArgs false

theorem ageP_skip {T : Tab} {g : Nat → Nat → Int} {d : Nat → Int} {k : Nat} (h : skipB T (g k) (d k) = true) : ageP T g d (k + 1) = ageP T g d k := by rw [ageP, if_pos h]
theorem ageP_add {T : Tab} {g : Nat → Nat → Int} {d : Nat → Int} {k : Nat} (h : skipB T (g k) (d k) = false) : ageP T g d (k + 1) = ((ageP T g d k).1 + 1, addH (ageP T g d k).1 (ageP T g d k).2 (ageU (g k) (d k))) := by rw [ageP, if_neg (by rw [h]; simp)]
set_option maxRecDepth 100000 in
set_option maxHeartbeats 8000000 in
theorem s_Age0 (T : Tab) (r : Int) (n : Nat) (g : Nat → Nat → Int) (d : Nat → Int) (hn : n ≤ 1048576) (hB : portB T r n g = true) (hin : ∀ i, i < n → inR (d i) 0 (g i 6) = true) (N : Nat) (G : Nat → Nat → Int) (C : Int)
    (hbad : (∃ i, i < n ∧ badAt T r g d i) → N = 0 ∧ C = 5) (hgood : (¬ ∃ i, i < n ∧ badAt T r g d i) → N = (ageP T g d n).1 ∧ G = (ageP T g d n).2 ∧ C = 0) (v vl vd : Value) (w : World) (hv : BasAt w T r v) (hl : HAt w vl n g) (hd : DAt w vd n d) :
    Calls Try.prog 28 #[v, vl, vd] w (RetAge w N G C) := by
  have HP := Lib.hid fun v vl w => s_IsPort T r n g hn true hB v vl w
  have hB2 := portB_iff.1 hB
  have h30 := hB2.2.2
  have HOK := Lib.hid hB2.1
  have HIN := Lib.hid hin
  have HBAD := Lib.hid hbad
  have HGOOD := Lib.hid hgood
  (have hv' := hv; obtain ⟨A, c, rfl, hc, hm, hbig, hI⟩ := hv; have ht : TabAt w T (.agg #[.int .i64 T.first, .slice A T.n c]) := ⟨A, c, rfl, hc, hm, hbig, hI⟩)
  have HL2 := Lib.hid hl
  clear hB hB2 hin hbad hgood
  obtain ⟨A2, c2, rfl, _, _, hHI⟩ := hl
  have HHI := Lib.hid hHI
  obtain ⟨A3, c3, rfl, _, _, hDI⟩ := hd
  have HDI := Lib.hid hDI
  clear hHI hDI hI
  go_enter Try.func28, Try.ntmps28
  go_wp2_with (first | (go_at_call 20; (with_reducible refine (HP.out _ _ _ (hv'.up (by repeat' (first | (with_reducible exact Up.refl _) | (with_reducible assumption) | (with_reducible refine Up.alloc ?_ _) | (with_reducible refine Up.drew ?_) | (with_reducible refine Up.grow ?_ _) | (with_reducible refine Up.setCell ?_ (by (try simp); (try omega)) _)))) (HL2.out.up (by repeat' (first | (with_reducible exact Up.refl _) | (with_reducible assumption) | (with_reducible refine Up.alloc ?_ _) | (with_reducible refine Up.drew ?_) | (with_reducible refine Up.grow ?_ _) | (with_reducible refine Up.setCell ?_ (by (try simp); (try omega)) _))))).mono ?_); rintro e w' ⟨rfl, hb⟩; first | (obtain ⟨x, rfl⟩ := Grow.on x hb) | (obtain ⟨x, rfl⟩ := Grow.mk' hb)) | (go_at_call 142; (with_reducible refine (s_In _ _ _ _).mono ?_); rintro e w' ⟨rfl, rfl⟩) | (go_at_call 186; (with_reducible refine (i_In _ _ _ _).mono ?_); rintro e w' ⟨rfl, rfl⟩) | (go_at_call 222; (with_reducible refine (s_Rate _ _).mono ?_); rintro e w' ⟨rfl, rfl⟩) | (go_at_call 165; (with_reducible refine (i_Rate _ _).mono ?_); rintro e w' ⟨rfl, rfl⟩) | (go_at_call 262; (with_reducible refine (i_Years _ _).mono ?_); rintro e w' ⟨rfl, rfl⟩) | (go_at_call 227; (with_reducible refine (s_Amount6 _ _).mono ?_); rintro e w' ⟨rfl, rfl⟩) | (go_at_call 236; (with_reducible refine (s_Sum7 _ _).mono ?_); rintro e w' ⟨rfl, rfl⟩) | ((first | with_reducible refine wp_region_in x (by kernel_rfl) (by kernel_rfl) ?_ | with_reducible refine wp_region_here (by kernel_rfl) (by kernel_rfl) ?_); (repeat (go_big_quiet_step ((first | (go_at_call 20; with_reducible exact Ret.grow _ (HP.out _ _ _ (hv'.up (by repeat' (first | (with_reducible exact Up.refl _) | (with_reducible assumption) | (with_reducible refine Up.alloc ?_ _) | (with_reducible refine Up.drew ?_) | (with_reducible refine Up.grow ?_ _) | (with_reducible refine Up.setCell ?_ (by (try simp); (try omega)) _)))) (HL2.out.up (by repeat' (first | (with_reducible exact Up.refl _) | (with_reducible assumption) | (with_reducible refine Up.alloc ?_ _) | (with_reducible refine Up.drew ?_) | (with_reducible refine Up.grow ?_ _) | (with_reducible refine Up.setCell ?_ (by (try simp); (try omega)) _)))))) | (go_at_call 142; with_reducible exact Ret.same _ (s_In _ _ _ _)) | (go_at_call 186; with_reducible exact Ret.same _ (i_In _ _ _ _)) | (go_at_call 222; with_reducible exact Ret.same _ (s_Rate _ _)) | (go_at_call 165; with_reducible exact Ret.same _ (i_Rate _ _)) | (go_at_call 262; with_reducible exact Ret.same _ (i_Years _ _)) | (go_at_call 227; with_reducible exact Ret.same _ (s_Amount6 _ _)) | (go_at_call 236; with_reducible exact Ret.same _ (s_Sum7 _ _)))))); refine wpQuiet_nil ?_; intro w' hw'; obtain ⟨x, rfl⟩ := hw'))
  go_loopw [8, 9] (fun a i wr => ∃ (k : Nat) (y : Grow (w.alloc (.cells #[.int .i64 T.first, .slice A T.n c, .int .i64 r] 33))), k ≤ n ∧ i = .int .i64 k ∧ a = .bool true ∧ wr = y.to) (fun a i _ => n - (intOf i).toNat)
  case atStart => exact ⟨0, x, Nat.zero_le _, rfl, by simp, rfl⟩
  case round =>
    clear hb x
    obtain ⟨k0, x, hk, rfl, rfl, rfl⟩ := hrel
    by_cases hlt : k0 < n
    · obtain ⟨b2, off2, rfl, ib, e0, e1, e2, e3, e4, e5, e6⟩ := (HHI.out.up (Up.alloc (Up.refl w) (.cells #[.int .i64 T.first, .slice A T.n c, .int .i64 r] 33))).seven hlt
      obtain ⟨b3, off3, rfl, ib3, f0⟩ := (HDI.out.up (Up.alloc (Up.refl w) (.cells #[.int .i64 T.first, .slice A T.n c, .int .i64 r] 33))) k0 hlt
      have c6 : ∀ y : Grow (w.alloc (.cells #[.int .i64 T.first, .slice A T.n c, .int .i64 r] 33)), y.to.cell? ⟨b2, off2 + k0 * 7 + 6, none⟩ = some (.int .i64 (g k0 6)) := fun y => (y.below.cell (p := ⟨b2, off2 + k0 * 7 + 6, none⟩) ib).trans e6
      have cd : ∀ y : Grow (w.alloc (.cells #[.int .i64 T.first, .slice A T.n c, .int .i64 r] 33)), y.to.cell? ⟨b3, off3 + k0, none⟩ = some (.int .i64 (d k0)) := fun y => (y.below.cell (p := ⟨b3, off3 + k0, none⟩) ib3).trans f0
      have HV := Lib.hid (HIN.out k0 hlt)
      clear e0 e1 e2 e3 e4 e5 e6 f0
      go_wp2_with (first | (go_at_call 142; (with_reducible refine (s_In _ _ _ _).mono ?_); rintro e w' ⟨rfl, hb⟩; first | (obtain ⟨x, rfl⟩ := Grow.on x hb) | (obtain ⟨x, rfl⟩ := Grow.mk' hb)) | (go_at_call 142; (with_reducible refine (s_In _ _ _ _).mono ?_); rintro e w' ⟨rfl, rfl⟩) | (go_at_call 186; (with_reducible refine (i_In _ _ _ _).mono ?_); rintro e w' ⟨rfl, rfl⟩) | (go_at_call 222; (with_reducible refine (s_Rate _ _).mono ?_); rintro e w' ⟨rfl, rfl⟩) | (go_at_call 165; (with_reducible refine (i_Rate _ _).mono ?_); rintro e w' ⟨rfl, rfl⟩) | (go_at_call 262; (with_reducible refine (i_Years _ _).mono ?_); rintro e w' ⟨rfl, rfl⟩) | (go_at_call 227; (with_reducible refine (s_Amount6 _ _).mono ?_); rintro e w' ⟨rfl, rfl⟩) | (go_at_call 236; (with_reducible refine (s_Sum7 _ _).mono ?_); rintro e w' ⟨rfl, rfl⟩) | ((first | with_reducible refine wp_region_in x (by kernel_rfl) (by kernel_rfl) ?_ | with_reducible refine wp_region_here (by kernel_rfl) (by kernel_rfl) ?_); (repeat (go_big_quiet_step ((first | (go_at_call 142; with_reducible exact Ret.grow _ (s_In _ _ _ _)) | (go_at_call 142; with_reducible exact Ret.same _ (s_In _ _ _ _)) | (go_at_call 186; with_reducible exact Ret.same _ (i_In _ _ _ _)) | (go_at_call 222; with_reducible exact Ret.same _ (s_Rate _ _)) | (go_at_call 165; with_reducible exact Ret.same _ (i_Rate _ _)) | (go_at_call 262; with_reducible exact Ret.same _ (i_Years _ _)) | (go_at_call 227; with_reducible exact Ret.same _ (s_Amount6 _ _)) | (go_at_call 236; with_reducible exact Ret.same _ (s_Sum7 _ _)))))); refine wpQuiet_nil ?_; intro w' hw'; obtain ⟨x, rfl⟩ := hw'))
      go_roundw
      case rel => exact ⟨k0 + 1, _, by omega, by go_num, by rw [HV.out], rfl⟩
      case measure => simp [intOf]; omega
    · go_wp2_with fail
      go_loopw [10, 11] (fun o i wr => ∃ (k : Nat) (y : Grow (w.alloc (.cells #[.int .i64 T.first, .slice A T.n c, .int .i64 r] 33))), k ≤ n ∧ i = .int .i64 k ∧ wr = y.to ∧ OwnH (w.alloc (.cells #[.int .i64 T.first, .slice A T.n c, .int .i64 r] 33)) y.to o (ageP T g d k).1 (ageP T g d k).2 ∧ Hid (∀ j, j < k → ¬ badAt T r g d j)) (fun o i _ => n - (intOf i).toNat)
      case atStart =>
        obtain ⟨y, hy⟩ := Grow.mk' (show Below (w.alloc (.cells #[.int .i64 T.first, .slice A T.n c, .int .i64 r] 33)).heap.size (w.alloc (.cells #[.int .i64 T.first, .slice A T.n c, .int .i64 r] 33)) (x.to.alloc (.cells #[] 113)) from x.below.alloc x.size _)
        exact ⟨0, y, Nat.zero_le _, rfl, hy, by rw [← hy]; exact OwnH.start _ x.size _, Lib.hid fun j hj => by omega⟩
      case round =>
        clear hlt hk
        obtain ⟨k, x, hk, rfl, rfl, hown, HNB⟩ := hrel
        have HOWN := Lib.hid hown
        clear hown
        by_cases hlt : k < n
        · have hok := HOK.out k hlt
          obtain ⟨b2, off2, rfl, ib, e0, e1, e2, e3, e4, e5, e6⟩ := ((HHI.out.up (Up.alloc (Up.refl w) (.cells #[.int .i64 T.first, .slice A T.n c, .int .i64 r] 33))).up x.below).seven hlt
          obtain ⟨b3, off3, rfl, ib3, f0⟩ := ((HDI.out.up (Up.alloc (Up.refl w) (.cells #[.int .i64 T.first, .slice A T.n c, .int .i64 r] 33))).up x.below) k hlt
          obtain ⟨hT, hr0, hr1, ha1, ha2, hy1, hy2, hq1, hq2⟩ := age_facts hok
          have hdk := inR_true.1 (HIN.out k hlt)
          obtain ⟨Q, hQ⟩ : ∃ Q, g k 6 - d k = Q := ⟨_, rfl⟩
          have iQ : wrap64 (g k 6 - d k) = Q := by rw [hQ]; exact IntWalk.wrap64_in Q (by omega)
          go_wp2_with fail
          go_region
          have hQB := (Blk.new x.to 113 #[.int .i64 (g k 0), .int .i64 (g k 1), .int .i64 (g k 2), .int .i64 (g k 3), .int .i64 (g k 4), .int .i64 (g k 5), .int .i64 Q]).drew
          have hup : Up x.to (x.to.alloc (.cells #[.int .i64 (g k 0), .int .i64 (g k 1), .int .i64 (g k 2), .int .i64 (g k 3), .int .i64 (g k 4), .int .i64 (g k 5), .int .i64 Q] 113)).drew := (Up.alloc (Up.refl _) _).drew
          generalize (x.to.alloc (.cells #[.int .i64 (g k 0), .int .i64 (g k 1), .int .i64 (g k 2), .int .i64 (g k 3), .int .i64 (g k 4), .int .i64 (g k 5), .int .i64 Q] 113)).drew = w5 at *
          have hK := (Blk.new w 33 #[.int .i64 T.first, .slice A T.n c, .int .i64 r]).up ((show Up (w.alloc (.cells #[.int .i64 T.first, .slice A T.n c, .int .i64 r] 33)) x.to from x.below).trans hup)
          have huw : Up w w5 := ((Up.alloc (Up.refl w) (.cells #[.int .i64 T.first, .slice A T.n c, .int .i64 r] 33)).trans (show Up _ x.to from x.below)).trans hup
          have hsz : w.heap.size < x.to.heap.size := by have := x.size; simp at this; omega
          have hne1 : ¬ w.heap.size = x.to.heap.size := by omega
          have hne2 : ¬ x.to.heap.size = w.heap.size := by omega
          have q0 := hQB.cell 0; have q1 := hQB.cell 1; have q2 := hQB.cell 2; have q3 := hQB.cell 3; have q4 := hQB.cell 4; have q5 := hQB.cell 5; have q6 := hQB.cell 6; have iq := hQB.inw; have qf := hQB.frozen; have c0 := hK.cell 0; have c1 := hK.cell 1; have c2' := hK.cell 2; have ic := hK.inw
          clear e0 e1 e2 e3 e4 e5 e6 f0 iQ
          by_cases hq0 : Q = 0
          · have HSK : Hid (skipB T (g k) (d k) = true) := Lib.hid (by unfold skipB; rw [hQ, hq0]; simp)
            have hz : (Q == 0) = true := by simpa using hq0
            clear hq0 hQ
            go_wp2
            go_roundw
            case rel =>
              obtain ⟨y, hy⟩ := Grow.mk' ((show Up (w.alloc (.cells #[.int .i64 T.first, .slice A T.n c, .int .i64 r] 33)) x.to from x.below).trans hup)
              refine ⟨k + 1, y, by omega, by go_num, hy, ?_, Lib.hid fun j hj => ?_⟩
              · rw [ageP_skip HSK.out, ← hy]; exact HOWN.out.up hup
              · rcases Nat.lt_or_ge j k with h | h
                · exact HNB.out j h
                · rw [show j = k from by omega]; exact fun hb => by have h2 := hb.1; rw [HSK.out] at h2; cases h2
            case measure => simp [intOf]; omega

          have hz : (Q == 0) = false := by simpa using hq0
          by_cases hL : lastB T (g k) = true
          · have HSK : Hid (skipB T (g k) (d k) = true) := Lib.hid (by unfold skipB; rw [hL]; simp)
            have HL := Lib.hid (s_LastQ hok hL Q)
            clear hq0 hQ hL
            go_wp2_with (go_at_call 150; (with_reducible refine (HL.out _ _ (hv'.up huw)).mono ?_); rintro e w6 ⟨rfl, h6⟩; have hup := hup.trans h6)
            go_roundw
            case rel =>
              obtain ⟨y, hy⟩ := Grow.mk' ((show Up (w.alloc (.cells #[.int .i64 T.first, .slice A T.n c, .int .i64 r] 33)) x.to from x.below).trans hup)
              refine ⟨k + 1, y, by omega, by go_num, hy, ?_, Lib.hid fun j hj => ?_⟩
              · rw [ageP_skip HSK.out, ← hy]; exact HOWN.out.up hup
              · rcases Nat.lt_or_ge j k with h | h
                · exact HNB.out j h
                · rw [show j = k from by omega]; exact fun hb => by have h2 := hb.1; rw [HSK.out] at h2; cases h2
            case measure => simp [intOf]; omega

          have hL := Bool.eq_false_iff.2 hL
          have HSK : Hid (skipB T (g k) (d k) = false) := Lib.hid (by unfold skipB; rw [hL, hQ]; simpa using hq0)
          have HL := Lib.hid (s_LastQ hok hL Q)
          have HD := Lib.hid fun v w h => s_D hT hr0 hr1 (g k 1 + (g k 5 + 1)) (by omega) (by omega) v w h
          have iy : IntKind.i64.wrap (g k 5 + 1) = g k 5 + 1 := IntWalk.i64_in _ (by omega)
          have ia : IntKind.i64.wrap (g k 1 + (g k 5 + 1)) = g k 1 + (g k 5 + 1) := by have := hT.lo; exact IntWalk.i64_in _ (by omega)
          have HU : Hid (ageU (g k) (d k) = fun j => if j = 5 then g k 5 + 1 else if j = 6 then Q else g k j) := Lib.hid (by unfold ageU; rw [hQ])
          have HND : Hid (nextD T r (g k) = T.D r (g k 1 + (g k 5 + 1) - T.first).toNat) := Lib.hid rfl
          clear hq0 hL
          generalize T.D r (g k 1 + (g k 5 + 1) - T.first).toNat = Dn at *
          go_wp2_with fail
          refine (HL.out _ _ (hv'.up huw)).mono ?_; rintro e w6 ⟨rfl, h6⟩
          have hQB := hQB.up h6; have hK := hK.up h6; have hup := hup.trans h6; have huw := huw.trans h6
          have q0 := hQB.cell 0; have q1 := hQB.cell 1; have q2 := hQB.cell 2; have q3 := hQB.cell 3; have q4 := hQB.cell 4; have q5 := hQB.cell 5; have q6 := hQB.cell 6; have iq := hQB.inw; have qf := hQB.frozen; have c0 := hK.cell 0; have c1 := hK.cell 1; have c2' := hK.cell 2; have ic := hK.inw
          go_wp2_with fail
          refine (HD.out _ _ (ht.up (by repeat' (first | (with_reducible exact Up.refl _) | (with_reducible assumption) | (with_reducible refine Up.alloc ?_ _) | (with_reducible refine Up.drew ?_) | (with_reducible refine Up.grow ?_ _) | (with_reducible refine Up.setCell ?_ (by (try simp); (try omega)) _))))).mono ?_; rintro e w7 ⟨rfl, h7⟩
          have hQB : Blk w7 x.to.heap.size 113 #[.int .i64 (g k 0), .int .i64 (g k 1), .int .i64 (g k 2), .int .i64 (g k 3), .int .i64 (g k 4), .int .i64 (g k 5 + 1), .int .i64 Q] := by simpa using (hQB.same 5 (.int .i64 (g k 5 + 1))).up h7
          have hs6 : Up x.to (w6.setCell ⟨x.to.heap.size, 5, none⟩ (.int .i64 (g k 5 + 1))) := Up.setCell hup (Nat.le_refl _) _
          have hup := hs6.trans h7
          have huw : Up w w7 := ((Up.alloc (Up.refl w) (.cells #[.int .i64 T.first, .slice A T.n c, .int .i64 r] 33)).trans (show Up _ x.to from x.below)).trans hup
          clear q0 q1 q2 q3 q4 q5 q6 iq qf c0 c1 c2' ic hs6 h6 h7 hK
          have q0 := hQB.cell 0; have q1 := hQB.cell 1; have q2 := hQB.cell 2; have q3 := hQB.cell 3; have q4 := hQB.cell 4; have q5 := hQB.cell 5; have q6 := hQB.cell 6; have iq := hQB.inw
          by_cases hDn : Dn = 0
          · obtain ⟨hN, hC⟩ := HBAD.out ⟨k, hlt, HSK.out, by rw [HND.out, hDn]⟩
            subst hN hC
            have hdz : (Dn == 0) = true := by simpa using hDn
            clear hDn
            go_wp2
            go_ret2
            exact ⟨_, rfl, (by repeat' (first | (with_reducible exact Up.refl _) | (with_reducible assumption) | (with_reducible refine Up.alloc ?_ _) | (with_reducible refine Up.drew ?_) | (with_reducible refine Up.grow ?_ _) | (with_reducible refine Up.setCell ?_ (by (try simp); (try omega)) _))), OwnH.nil _ _ _⟩
          · have HNZ : Hid (¬ nextD T r (g k) = 0) := Lib.hid (by rw [HND.out]; exact hDn)
            have hdz : (Dn == 0) = false := by simpa using hDn
            have hle := ageP_le T g d k
            clear hDn
            go_wp2_with (at_builtin; refine wp_pushH (W := (w.alloc (.cells #[.int .i64 T.first, .slice A T.n c, .int .i64 r] 33))) (u := fun j => if j = 5 then g k 5 + 1 else if j = 6 then Q else g k j) ((show Up (w.alloc (.cells #[.int .i64 T.first, .slice A T.n c, .int .i64 r] 33)) x.to from x.below).trans hup) (HOWN.out.up hup) rfl _ _ rfl rfl rfl (by omega) ?_; intro v' y hown2 hg2)
            go_roundw
            case rel =>
              refine ⟨k + 1, y, by omega, by go_num, rfl, ?_, Lib.hid fun j hj => ?_⟩
              · rw [ageP_add HSK.out, HU.out]; exact hown2
              · rcases Nat.lt_or_ge j k with h | h
                · exact HNB.out j h
                · rw [show j = k from by omega]; exact fun hb => HNZ.out hb.2
            case measure => simp [intOf]; omega
        · obtain ⟨hN, hG, hC⟩ := HGOOD.out (by rintro ⟨i, hi, hb2⟩; exact HNB.out i (by omega) hb2)
          have HE : Hid (k = n) := Lib.hid (by omega)
          subst hC
          have HN := Lib.hid hN
          have HG := Lib.hid hG
          clear hN hG
          go_wp2
          go_ret2
          exact ⟨_, rfl, (by repeat' (first | (with_reducible exact Up.refl _) | (with_reducible assumption) | (with_reducible refine Up.alloc ?_ _) | (with_reducible refine Up.drew ?_) | (with_reducible refine Up.grow ?_ _) | (with_reducible refine Up.setCell ?_ (by (try simp); (try omega)) _))), by rw [HN.out, HG.out, ← HE.out]; exact HOWN.out.base (by simp)⟩
theorem s_AgePortfolio (T : Tab) (r : Int) (n : Nat) (g : Nat → Nat → Int) (m : Nat) (d : Nat → Int) (hn : n ≤ 1048576) (hm : m ≤ 1048576) (v vl vd : Value) (w : World) (hv : BasAt w T r v) (hl : HAt w vl n g) (hd : DAt w vd m d) :
    Calls Try.prog 28 #[v, vl, vd] w (RetAge w (ageN T r n g m d) (ageG T r n g m d) (ageC T r n g m d)) := by
  by_cases hB : portB T r n g = true
  case neg =>
    rw [ret_bad (ageC_1 hB) (by omega)]
    exact s_Age1 T r n g m d hn (Bool.eq_false_iff.2 hB) v vl vd w hv hl hd
  by_cases hin : inOk n g m d
  case neg =>
    rw [ret_bad (ageC_2 hB hin) (by omega)]
    exact s_Age2 T r n g m d hn hm hB hin v vl vd w hv hl hd
  have hin2 := hin
  obtain ⟨rfl, hin3⟩ := hin2
  by_cases hb : ∃ i, i < m ∧ badAt T r g d i
  · rw [ret_bad (ageC_5 hB hin hb) (by omega)]
    exact s_Age0 T r m g d hn hB hin3 0 _ 5 (fun _ => ⟨rfl, rfl⟩) (fun h => absurd hb h) v vl vd w hv hl hd
  · rw [ret_okA (ageC_0 hB hin hb)]
    exact s_Age0 T r m g d hn hB hin3 _ _ 0 (fun h => absurd h hb) (fun _ => ⟨rfl, rfl, rfl⟩) v vl vd w hv hl hd
end Go.Proofs.Ytdeoampkbbbleaa
namespace Go.Proofs.Ytdeoampkbbbleaa
open Go.RowKit Pu
set_option linter.unusedVariables false
set_option linter.unusedSimpArgs false

theorem i_Chk1 (T : Tab) (r : Int) (n : Nat) (g : Nat → Nat → Int) (m : Nat) (d : Nat → Int) (hn : n ≤ 1048576) (hB : portB T r n g = false) (v vl vd : Value) (w : World) (hv : BasAt w T r v) (hl : HAt w vl n g) (hd : DAt w vd m d) :
    Calls Try.prog 153 #[v, vl, vd] w (Ret w (.int .i64 1)) := by
  have HP := Lib.hid fun v vl w => i_IsPort T r n g hn false hB v vl w
  (have hv' := hv; obtain ⟨A, c, rfl, hc, hm, hbig, hI⟩ := hv; have ht : TabAt w T (.agg #[.int .i64 T.first, .slice A T.n c]) := ⟨A, c, rfl, hc, hm, hbig, hI⟩)
  have HL2 := Lib.hid hl
  clear hB
  obtain ⟨A2, c2, rfl, _, _, hHI⟩ := hl
  obtain ⟨A3, c3, rfl, _, _, hDI⟩ := hd
  go_enter Try.func153, Try.ntmps153
  go_wp2_with (first | (go_at_call 23; (with_reducible refine (HP.out _ _ _ (hv'.up (by repeat' (first | (with_reducible exact Up.refl _) | (with_reducible assumption) | (with_reducible refine Up.alloc ?_ _) | (with_reducible refine Up.drew ?_) | (with_reducible refine Up.grow ?_ _) | (with_reducible refine Up.setCell ?_ (by (try simp); (try omega)) _)))) (HL2.out.up (by repeat' (first | (with_reducible exact Up.refl _) | (with_reducible assumption) | (with_reducible refine Up.alloc ?_ _) | (with_reducible refine Up.drew ?_) | (with_reducible refine Up.grow ?_ _) | (with_reducible refine Up.setCell ?_ (by (try simp); (try omega)) _))))).mono ?_); rintro e w' ⟨rfl, hb⟩; first | (obtain ⟨x, rfl⟩ := Grow.on x hb) | (obtain ⟨x, rfl⟩ := Grow.mk' hb)) | (go_at_call 142; (with_reducible refine (s_In _ _ _ _).mono ?_); rintro e w' ⟨rfl, rfl⟩) | (go_at_call 186; (with_reducible refine (i_In _ _ _ _).mono ?_); rintro e w' ⟨rfl, rfl⟩) | (go_at_call 222; (with_reducible refine (s_Rate _ _).mono ?_); rintro e w' ⟨rfl, rfl⟩) | (go_at_call 165; (with_reducible refine (i_Rate _ _).mono ?_); rintro e w' ⟨rfl, rfl⟩) | (go_at_call 262; (with_reducible refine (i_Years _ _).mono ?_); rintro e w' ⟨rfl, rfl⟩) | (go_at_call 227; (with_reducible refine (s_Amount6 _ _).mono ?_); rintro e w' ⟨rfl, rfl⟩) | (go_at_call 236; (with_reducible refine (s_Sum7 _ _).mono ?_); rintro e w' ⟨rfl, rfl⟩) | ((first | with_reducible refine wp_region_in x (by kernel_rfl) (by kernel_rfl) ?_ | with_reducible refine wp_region_here (by kernel_rfl) (by kernel_rfl) ?_); (repeat (go_big_quiet_step ((first | (go_at_call 23; with_reducible exact Ret.grow _ (HP.out _ _ _ (hv'.up (by repeat' (first | (with_reducible exact Up.refl _) | (with_reducible assumption) | (with_reducible refine Up.alloc ?_ _) | (with_reducible refine Up.drew ?_) | (with_reducible refine Up.grow ?_ _) | (with_reducible refine Up.setCell ?_ (by (try simp); (try omega)) _)))) (HL2.out.up (by repeat' (first | (with_reducible exact Up.refl _) | (with_reducible assumption) | (with_reducible refine Up.alloc ?_ _) | (with_reducible refine Up.drew ?_) | (with_reducible refine Up.grow ?_ _) | (with_reducible refine Up.setCell ?_ (by (try simp); (try omega)) _)))))) | (go_at_call 142; with_reducible exact Ret.same _ (s_In _ _ _ _)) | (go_at_call 186; with_reducible exact Ret.same _ (i_In _ _ _ _)) | (go_at_call 222; with_reducible exact Ret.same _ (s_Rate _ _)) | (go_at_call 165; with_reducible exact Ret.same _ (i_Rate _ _)) | (go_at_call 262; with_reducible exact Ret.same _ (i_Years _ _)) | (go_at_call 227; with_reducible exact Ret.same _ (s_Amount6 _ _)) | (go_at_call 236; with_reducible exact Ret.same _ (s_Sum7 _ _)))))); refine wpQuiet_nil ?_; intro w' hw'; obtain ⟨x, rfl⟩ := hw'))
  go_ret
  exact ⟨rfl, (by repeat' (first | (with_reducible exact Up.refl _) | (with_reducible assumption) | (with_reducible refine Up.alloc ?_ _) | (with_reducible refine Up.drew ?_) | (with_reducible refine Up.grow ?_ _) | (with_reducible refine Up.setCell ?_ (by (try simp); (try omega)) _)))⟩
set_option maxRecDepth 100000 in
set_option maxHeartbeats 4000000 in
theorem i_Chk2 (T : Tab) (r : Int) (n : Nat) (g : Nat → Nat → Int) (m : Nat) (d : Nat → Int) (hn : n ≤ 1048576) (hm2 : m ≤ 1048576) (hB : portB T r n g = true) (C : Int) (hC : inOk n g m d → C = 0) (hC2 : ¬ inOk n g m d → C = 2) (v vl vd : Value) (w : World) (hv : BasAt w T r v) (hl : HAt w vl n g) (hd : DAt w vd m d) :
    Calls Try.prog 153 #[v, vl, vd] w (Ret w (.int .i64 C)) := by
  have HP := Lib.hid fun v vl w => i_IsPort T r n g hn true hB v vl w
  (have hv' := hv; obtain ⟨A, c, rfl, hc, hm, hbig, hI⟩ := hv; have ht : TabAt w T (.agg #[.int .i64 T.first, .slice A T.n c]) := ⟨A, c, rfl, hc, hm, hbig, hI⟩)
  have HL2 := Lib.hid hl
  have HC := Lib.hid hC
  have HC2 := Lib.hid hC2
  clear hB hC hC2
  obtain ⟨A2, c2, rfl, _, _, hHI⟩ := hl
  have HHI := Lib.hid hHI
  obtain ⟨A3, c3, rfl, _, _, hDI⟩ := hd
  have HDI := Lib.hid hDI
  clear hHI hDI hI ht
  by_cases hmn : m = n
  case neg =>
    have hmb : ((m : Int) != (n : Int)) = true := by simp; omega
    have e := HC2.out fun h => hmn h.1
    subst e
    clear hmn
    go_enter Try.func153, Try.ntmps153
    go_wp2_with (first | (go_at_call 23; (with_reducible refine (HP.out _ _ _ (hv'.up (by repeat' (first | (with_reducible exact Up.refl _) | (with_reducible assumption) | (with_reducible refine Up.alloc ?_ _) | (with_reducible refine Up.drew ?_) | (with_reducible refine Up.grow ?_ _) | (with_reducible refine Up.setCell ?_ (by (try simp); (try omega)) _)))) (HL2.out.up (by repeat' (first | (with_reducible exact Up.refl _) | (with_reducible assumption) | (with_reducible refine Up.alloc ?_ _) | (with_reducible refine Up.drew ?_) | (with_reducible refine Up.grow ?_ _) | (with_reducible refine Up.setCell ?_ (by (try simp); (try omega)) _))))).mono ?_); rintro e w' ⟨rfl, hb⟩; first | (obtain ⟨x, rfl⟩ := Grow.on x hb) | (obtain ⟨x, rfl⟩ := Grow.mk' hb)) | (go_at_call 142; (with_reducible refine (s_In _ _ _ _).mono ?_); rintro e w' ⟨rfl, rfl⟩) | (go_at_call 186; (with_reducible refine (i_In _ _ _ _).mono ?_); rintro e w' ⟨rfl, rfl⟩) | (go_at_call 222; (with_reducible refine (s_Rate _ _).mono ?_); rintro e w' ⟨rfl, rfl⟩) | (go_at_call 165; (with_reducible refine (i_Rate _ _).mono ?_); rintro e w' ⟨rfl, rfl⟩) | (go_at_call 262; (with_reducible refine (i_Years _ _).mono ?_); rintro e w' ⟨rfl, rfl⟩) | (go_at_call 227; (with_reducible refine (s_Amount6 _ _).mono ?_); rintro e w' ⟨rfl, rfl⟩) | (go_at_call 236; (with_reducible refine (s_Sum7 _ _).mono ?_); rintro e w' ⟨rfl, rfl⟩) | ((first | with_reducible refine wp_region_in x (by kernel_rfl) (by kernel_rfl) ?_ | with_reducible refine wp_region_here (by kernel_rfl) (by kernel_rfl) ?_); (repeat (go_big_quiet_step ((first | (go_at_call 23; with_reducible exact Ret.grow _ (HP.out _ _ _ (hv'.up (by repeat' (first | (with_reducible exact Up.refl _) | (with_reducible assumption) | (with_reducible refine Up.alloc ?_ _) | (with_reducible refine Up.drew ?_) | (with_reducible refine Up.grow ?_ _) | (with_reducible refine Up.setCell ?_ (by (try simp); (try omega)) _)))) (HL2.out.up (by repeat' (first | (with_reducible exact Up.refl _) | (with_reducible assumption) | (with_reducible refine Up.alloc ?_ _) | (with_reducible refine Up.drew ?_) | (with_reducible refine Up.grow ?_ _) | (with_reducible refine Up.setCell ?_ (by (try simp); (try omega)) _)))))) | (go_at_call 142; with_reducible exact Ret.same _ (s_In _ _ _ _)) | (go_at_call 186; with_reducible exact Ret.same _ (i_In _ _ _ _)) | (go_at_call 222; with_reducible exact Ret.same _ (s_Rate _ _)) | (go_at_call 165; with_reducible exact Ret.same _ (i_Rate _ _)) | (go_at_call 262; with_reducible exact Ret.same _ (i_Years _ _)) | (go_at_call 227; with_reducible exact Ret.same _ (s_Amount6 _ _)) | (go_at_call 236; with_reducible exact Ret.same _ (s_Sum7 _ _)))))); refine wpQuiet_nil ?_; intro w' hw'; obtain ⟨x, rfl⟩ := hw'))
    go_ret
    exact ⟨rfl, (by repeat' (first | (with_reducible exact Up.refl _) | (with_reducible assumption) | (with_reducible refine Up.alloc ?_ _) | (with_reducible refine Up.drew ?_) | (with_reducible refine Up.grow ?_ _) | (with_reducible refine Up.setCell ?_ (by (try simp); (try omega)) _)))⟩
  subst hmn
  go_enter Try.func153, Try.ntmps153
  go_wp2_with (first | (go_at_call 23; (with_reducible refine (HP.out _ _ _ (hv'.up (by repeat' (first | (with_reducible exact Up.refl _) | (with_reducible assumption) | (with_reducible refine Up.alloc ?_ _) | (with_reducible refine Up.drew ?_) | (with_reducible refine Up.grow ?_ _) | (with_reducible refine Up.setCell ?_ (by (try simp); (try omega)) _)))) (HL2.out.up (by repeat' (first | (with_reducible exact Up.refl _) | (with_reducible assumption) | (with_reducible refine Up.alloc ?_ _) | (with_reducible refine Up.drew ?_) | (with_reducible refine Up.grow ?_ _) | (with_reducible refine Up.setCell ?_ (by (try simp); (try omega)) _))))).mono ?_); rintro e w' ⟨rfl, hb⟩; first | (obtain ⟨x, rfl⟩ := Grow.on x hb) | (obtain ⟨x, rfl⟩ := Grow.mk' hb)) | (go_at_call 142; (with_reducible refine (s_In _ _ _ _).mono ?_); rintro e w' ⟨rfl, rfl⟩) | (go_at_call 186; (with_reducible refine (i_In _ _ _ _).mono ?_); rintro e w' ⟨rfl, rfl⟩) | (go_at_call 222; (with_reducible refine (s_Rate _ _).mono ?_); rintro e w' ⟨rfl, rfl⟩) | (go_at_call 165; (with_reducible refine (i_Rate _ _).mono ?_); rintro e w' ⟨rfl, rfl⟩) | (go_at_call 262; (with_reducible refine (i_Years _ _).mono ?_); rintro e w' ⟨rfl, rfl⟩) | (go_at_call 227; (with_reducible refine (s_Amount6 _ _).mono ?_); rintro e w' ⟨rfl, rfl⟩) | (go_at_call 236; (with_reducible refine (s_Sum7 _ _).mono ?_); rintro e w' ⟨rfl, rfl⟩) | ((first | with_reducible refine wp_region_in x (by kernel_rfl) (by kernel_rfl) ?_ | with_reducible refine wp_region_here (by kernel_rfl) (by kernel_rfl) ?_); (repeat (go_big_quiet_step ((first | (go_at_call 23; with_reducible exact Ret.grow _ (HP.out _ _ _ (hv'.up (by repeat' (first | (with_reducible exact Up.refl _) | (with_reducible assumption) | (with_reducible refine Up.alloc ?_ _) | (with_reducible refine Up.drew ?_) | (with_reducible refine Up.grow ?_ _) | (with_reducible refine Up.setCell ?_ (by (try simp); (try omega)) _)))) (HL2.out.up (by repeat' (first | (with_reducible exact Up.refl _) | (with_reducible assumption) | (with_reducible refine Up.alloc ?_ _) | (with_reducible refine Up.drew ?_) | (with_reducible refine Up.grow ?_ _) | (with_reducible refine Up.setCell ?_ (by (try simp); (try omega)) _)))))) | (go_at_call 142; with_reducible exact Ret.same _ (s_In _ _ _ _)) | (go_at_call 186; with_reducible exact Ret.same _ (i_In _ _ _ _)) | (go_at_call 222; with_reducible exact Ret.same _ (s_Rate _ _)) | (go_at_call 165; with_reducible exact Ret.same _ (i_Rate _ _)) | (go_at_call 262; with_reducible exact Ret.same _ (i_Years _ _)) | (go_at_call 227; with_reducible exact Ret.same _ (s_Amount6 _ _)) | (go_at_call 236; with_reducible exact Ret.same _ (s_Sum7 _ _)))))); refine wpQuiet_nil ?_; intro w' hw'; obtain ⟨x, rfl⟩ := hw'))
  go_loopw [20] (fun i wr => ∃ (k : Nat) (y : Grow (w.alloc (.cells #[.int .i64 T.first, .slice A T.n c, .int .i64 r] 33))), k ≤ m ∧ i = .int .i64 k ∧ wr = y.to ∧ Hid (∀ j, j < k → inR (d j) 0 (g j 6) = true)) (fun i _ => m - (intOf i).toNat)
  case atStart => exact ⟨0, x, Nat.zero_le _, rfl, rfl, Lib.hid fun j hj => by omega⟩
  case round =>
    clear hb x
    obtain ⟨k, x, hk, rfl, rfl, HK⟩ := hrel
    by_cases hlt : k < m
    · obtain ⟨b2, off2, rfl, ib, e0, e1, e2, e3, e4, e5, e6⟩ := ((HHI.out.up (Up.alloc (Up.refl w) (.cells #[.int .i64 T.first, .slice A T.n c, .int .i64 r] 33))).up x.below).seven hlt
      obtain ⟨b3, off3, rfl, ib3, f0⟩ := ((HDI.out.up (Up.alloc (Up.refl w) (.cells #[.int .i64 T.first, .slice A T.n c, .int .i64 r] 33))).up x.below) k hlt
      obtain ⟨V, hV⟩ : ∃ V, inR (d k) 0 (g k 6) = V := ⟨_, rfl⟩
      have HV := Lib.hid hV
      cases V with
      | false =>
        have e := HC2.out fun h => by have := h.2 k hlt; rw [hV] at this; cases this
        subst e
        go_wp2_with fail
        go_region_held3 (fun w' => w'.cell? ⟨b3, off3 + k, none⟩ = some (.int .i64 (d k)) ∧ w'.cell? ⟨x.to.heap.size, 6, none⟩ = some (.int .i64 (g k 6))) ((repeat' apply And.intro) <;> go_simp) (first | (go_at_call 186; ((with_reducible refine (i_In _ _ _ _).mono ?_); rintro e w' ⟨rfl, rfl⟩)))
        all_goals
          go_wp2
          go_ret
          exact ⟨rfl, (by repeat' (first | (with_reducible exact Up.refl _) | (with_reducible assumption) | (with_reducible refine Up.alloc ?_ _) | (with_reducible refine Up.drew ?_) | (with_reducible refine Up.grow ?_ _) | (with_reducible refine Up.setCell ?_ (by (try simp); (try omega)) _)))⟩
      | true =>
        have HK2 : Hid (∀ j, j < k + 1 → inR (d j) 0 (g j 6) = true) := Lib.hid fun j hj => by
          rcases Nat.lt_or_ge j k with h | h
          · exact HK.out j h
          · rw [show j = k from by omega]; exact HV.out
        go_wp2_with fail
        go_region_held3 (fun w' => w'.cell? ⟨b3, off3 + k, none⟩ = some (.int .i64 (d k)) ∧ w'.cell? ⟨x.to.heap.size, 6, none⟩ = some (.int .i64 (g k 6))) ((repeat' apply And.intro) <;> go_simp) (first | (go_at_call 186; ((with_reducible refine (i_In _ _ _ _).mono ?_); rintro e w' ⟨rfl, rfl⟩)))
        all_goals
          go_wp2
          go_roundw
          case rel =>
            obtain ⟨y, hy⟩ := Grow.mk' (show Up (w.alloc (.cells #[.int .i64 T.first, .slice A T.n c, .int .i64 r] 33)) (x.to.alloc (.cells #[.int .i64 (g k 0), .int .i64 (g k 1), .int .i64 (g k 2), .int .i64 (g k 3), .int .i64 (g k 4), .int .i64 (g k 5), .int .i64 (g k 6)] 113)).drew from (Up.alloc (show Up (w.alloc (.cells #[.int .i64 T.first, .slice A T.n c, .int .i64 r] 33)) x.to from x.below) _).drew)
            exact ⟨k + 1, y, by omega, by go_num, hy, HK2⟩
          case measure => simp [intOf]; omega
    · have e := HC.out ⟨rfl, fun j hj => HK.out j (by omega)⟩
      subst e
      go_wp2
      go_ret
      exact ⟨rfl, (by repeat' (first | (with_reducible exact Up.refl _) | (with_reducible assumption) | (with_reducible refine Up.alloc ?_ _) | (with_reducible refine Up.drew ?_) | (with_reducible refine Up.grow ?_ _) | (with_reducible refine Up.setCell ?_ (by (try simp); (try omega)) _)))⟩
set_option maxRecDepth 100000 in
set_option maxHeartbeats 4000000 in
theorem i_HParts0 {T : Tab} {r kind m ld : Int} {k n : Nat} (hk : PK T r kind k n m ld) (j : Nat) (hj : j < T.dur kind k n) (q : Int) (v : Value) (w : World) (hv : BasAt w T r v) :
    Calls Try.prog 155 #[.agg #[.int .i64 kind, .int .i64 (T.first + k), .int .i64 n, .int .i64 m, .int .i64 ld, .int .i64 j, .int .i64 q], v] w (Ret w (rpV T r kind k n j)) := by
  (have hv' := hv; obtain ⟨A, c, rfl, hc, hm, hbig, hI⟩ := hv; have ht : TabAt w T (.agg #[.int .i64 T.first, .slice A T.n c]) := ⟨A, c, rfl, hc, hm, hbig, hI⟩)
  have HR := i_Parts hk hj
  have HC := Lib.hid (i_Cols hk.hT hk.h0 hk.h1)
  unfold rpV at *
  generalize T.top r kind (k + j) (n - j) = N at *
  generalize T.base r kind (k + j) (n - j) = B at *
  generalize T.D r (k + j) = D at *
  have HR2 := Lib.hid HR
  clear HR hj hk
  have hQ : Blk (((w.alloc (.cells #[.int .i64 kind, .int .i64 (T.first + k), .int .i64 n, .int .i64 m, .int .i64 ld, .int .i64 j, .int .i64 q] 113)).alloc (.cells #[.int .i64 T.first, .slice A T.n c, .int .i64 r] 33)).alloc (.cells #[.int .i64 0, .int .i64 0, .int .i64 0] 128)) w.heap.size 113 #[.int .i64 kind, .int .i64 (T.first + k), .int .i64 n, .int .i64 m, .int .i64 ld, .int .i64 j, .int .i64 q] := (((Blk.new w _ _).alloc _).alloc _)
  have hB : Blk (((w.alloc (.cells #[.int .i64 kind, .int .i64 (T.first + k), .int .i64 n, .int .i64 m, .int .i64 ld, .int .i64 j, .int .i64 q] 113)).alloc (.cells #[.int .i64 T.first, .slice A T.n c, .int .i64 r] 33)).alloc (.cells #[.int .i64 0, .int .i64 0, .int .i64 0] 128)) (w.heap.size + 1) 33 #[.int .i64 T.first, .slice A T.n c, .int .i64 r] := by
    have h := (Blk.new (w.alloc (.cells #[.int .i64 kind, .int .i64 (T.first + k), .int .i64 n, .int .i64 m, .int .i64 ld, .int .i64 j, .int .i64 q] 113)) 33 #[.int .i64 T.first, .slice A T.n c, .int .i64 r]).alloc (.cells #[.int .i64 0, .int .i64 0, .int .i64 0] 128)
    simpa only [World.size_alloc] using h
  have hR : Blk (((w.alloc (.cells #[.int .i64 kind, .int .i64 (T.first + k), .int .i64 n, .int .i64 m, .int .i64 ld, .int .i64 j, .int .i64 q] 113)).alloc (.cells #[.int .i64 T.first, .slice A T.n c, .int .i64 r] 33)).alloc (.cells #[.int .i64 0, .int .i64 0, .int .i64 0] 128)) (w.heap.size + 1 + 1) 128 #[.int .i64 0, .int .i64 0, .int .i64 0] := by
    have h := Blk.new ((w.alloc (.cells #[.int .i64 kind, .int .i64 (T.first + k), .int .i64 n, .int .i64 m, .int .i64 ld, .int .i64 j, .int .i64 q] 113)).alloc (.cells #[.int .i64 T.first, .slice A T.n c, .int .i64 r] 33)) 128 #[.int .i64 0, .int .i64 0, .int .i64 0]
    simpa only [World.size_alloc] using h
  have hup : Up w (((w.alloc (.cells #[.int .i64 kind, .int .i64 (T.first + k), .int .i64 n, .int .i64 m, .int .i64 ld, .int .i64 j, .int .i64 q] 113)).alloc (.cells #[.int .i64 T.first, .slice A T.n c, .int .i64 r] 33)).alloc (.cells #[.int .i64 0, .int .i64 0, .int .i64 0] 128)) := (by repeat' (first | (with_reducible exact Up.refl _) | (with_reducible assumption) | (with_reducible refine Up.alloc ?_ _) | (with_reducible refine Up.drew ?_) | (with_reducible refine Up.grow ?_ _) | (with_reducible refine Up.setCell ?_ (by (try simp); (try omega)) _)))
  have s2 : w.heap.size ≤ w.heap.size + 1 + 1 := by omega
  have d1 : ¬ w.heap.size + 1 = w.heap.size := by omega
  have d2 : ¬ w.heap.size = w.heap.size + 1 := by omega
  have d3 : ¬ w.heap.size + 1 + 1 = w.heap.size + 1 := by omega
  have d4 : ¬ w.heap.size + 1 = w.heap.size + 1 + 1 := by omega
  have d5 : ¬ w.heap.size + 1 + 1 = w.heap.size := by omega
  have d6 : ¬ w.heap.size = w.heap.size + 1 + 1 := by omega
  go_enter Try.func155, Try.ntmps155
  go_wp2_with fail
  generalize (((w.alloc (.cells #[.int .i64 kind, .int .i64 (T.first + k), .int .i64 n, .int .i64 m, .int .i64 ld, .int .i64 j, .int .i64 q] 113)).alloc (.cells #[.int .i64 T.first, .slice A T.n c, .int .i64 r] 33)).alloc (.cells #[.int .i64 0, .int .i64 0, .int .i64 0] 128)) = wr at *
  generalize w.heap.size + 1 + 1 = B2 at *
  generalize w.heap.size + 1 = B1 at *
  have a0 := hB.cell 0; have a1 := hB.cell 1; have a2 := hB.cell 2; have iB := hB.inw; have b0 := hQ.cell 0; have b1 := hQ.cell 1; have b2 := hQ.cell 2; have b3 := hQ.cell 3; have b4 := hQ.cell 4; have b5 := hQ.cell 5; have iQ := hQ.inw; have r0 := hR.cell 0; have r1 := hR.cell 1; have r2 := hR.cell 2; have iR := hR.inw; have rf := hR.frozen
  go_region_held3 (fun w' => w'.cell? ⟨B1, 0, none⟩ = some (.int .i64 T.first) ∧ w'.cell? ⟨B1, 1, none⟩ = some (.slice A T.n c) ∧ w'.cell? ⟨B1, 2, none⟩ = some (.int .i64 r) ∧ w'.cell? ⟨w.heap.size, 0, none⟩ = some (.int .i64 kind) ∧ w'.cell? ⟨w.heap.size, 1, none⟩ = some (.int .i64 (T.first + k)) ∧ w'.cell? ⟨w.heap.size, 2, none⟩ = some (.int .i64 n) ∧ w'.cell? ⟨w.heap.size, 3, none⟩ = some (.int .i64 m) ∧ w'.cell? ⟨w.heap.size, 4, none⟩ = some (.int .i64 ld) ∧ w'.cell? ⟨w.heap.size, 5, none⟩ = some (.int .i64 j)) ((repeat' apply And.intro) <;> go_simp)
    (first
      | (go_at_call 197; ((with_reducible refine (HC.out _ _ (ht.up (hup.trans (by repeat' (first | (with_reducible exact Up.refl _) | (with_reducible assumption) | (with_reducible refine Up.alloc ?_ _) | (with_reducible refine Up.drew ?_) | (with_reducible refine Up.grow ?_ _) | (with_reducible refine Up.setCell ?_ (by (try simp); (try omega)) _)))))).mono ?_); rintro e w5 ⟨v5, rfl, hb5, hcol⟩; have hcol2 := hcol; obtain ⟨gb, csb, rfl, _, _⟩ := hcol2; have hu5 : Up wr w5 := (Up.trans (by repeat' (first | (with_reducible exact Up.refl _) | (with_reducible assumption) | (with_reducible refine Up.alloc ?_ _) | (with_reducible refine Up.drew ?_) | (with_reducible refine Up.grow ?_ _) | (with_reducible refine Up.setCell ?_ (by (try simp); (try omega)) _))) hb5); have hup := hup.trans hu5; have hB := hB.up hu5; have hQ := hQ.up hu5; have hR := hR.up hu5; have a0 := hB.cell 0; have a1 := hB.cell 1; have a2 := hB.cell 2; have iB := hB.inw; have b0 := hQ.cell 0; have b1 := hQ.cell 1; have b2 := hQ.cell 2; have b3 := hQ.cell 3; have b4 := hQ.cell 4; have b5 := hQ.cell 5; have iQ := hQ.inw; have r0 := hR.cell 0; have r1 := hR.cell 1; have r2 := hR.cell 2; have iR := hR.inw; have rf := hR.frozen))
      | (go_at_call 249; ((with_reducible refine (HR2.out _ _ _ (hv'.up (hup.trans (by repeat' (first | (with_reducible exact Up.refl _) | (with_reducible assumption) | (with_reducible refine Up.alloc ?_ _) | (with_reducible refine Up.drew ?_) | (with_reducible refine Up.grow ?_ _) | (with_reducible refine Up.setCell ?_ (by (try simp); (try omega)) _))))) (hcol.up (by repeat' (first | (with_reducible exact Up.refl _) | (with_reducible assumption) | (with_reducible refine Up.alloc ?_ _) | (with_reducible refine Up.drew ?_) | (with_reducible refine Up.grow ?_ _) | (with_reducible refine Up.setCell ?_ (by (try simp); (try omega)) _))))).mono ?_); rintro e w6 ⟨rfl, hb6⟩; have hu6 : Up w5 w6 := (Up.trans (by repeat' (first | (with_reducible exact Up.refl _) | (with_reducible assumption) | (with_reducible refine Up.alloc ?_ _) | (with_reducible refine Up.drew ?_) | (with_reducible refine Up.grow ?_ _) | (with_reducible refine Up.setCell ?_ (by (try simp); (try omega)) _))) hb6); have hup := hup.trans hu6; have hB := hB.up hu6; have hQ := hQ.up hu6; have hR := hR.up hu6; have a0 := hB.cell 0; have a1 := hB.cell 1; have a2 := hB.cell 2; have iB := hB.inw; have b0 := hQ.cell 0; have b1 := hQ.cell 1; have b2 := hQ.cell 2; have b3 := hQ.cell 3; have b4 := hQ.cell 4; have b5 := hQ.cell 5; have iQ := hQ.inw; have r0 := hR.cell 0; have r1 := hR.cell 1; have r2 := hR.cell 2; have iR := hR.inw; have rf := hR.frozen)))
  all_goals
    go_wp2
    refine bodyPost_ret (v := .agg #[.int .i64 N, .int .i64 B, .int .i64 D]) (by simp [results, Try.results155, go_sem, r0, r1, r2, iR]) rfl ⟨rfl, (by repeat' (first | (with_reducible exact Up.refl _) | (with_reducible assumption) | (with_reducible refine Up.alloc ?_ _) | (with_reducible refine Up.drew ?_) | (with_reducible refine Up.grow ?_ _) | (with_reducible refine Up.setCell ?_ (by (try simp); (try omega)) _)))⟩
theorem i_DurQ {T : Tab} {r : Int} {g : Nat → Int} (h : portOk T r g) (v : Value) (w : World) (hv : BasAt w T r v) :
    Calls Try.prog 154 #[v, .agg #[.int .i64 (g 0), .int .i64 (g 1), .int .i64 (g 2), .int .i64 (g 3), .int .i64 (g 4)]] w (Ret w (.int .i64 (T.dur (g 0) (ix T (g 1)) (g 2).toNat))) := by
  obtain ⟨k, n, j, e1, e2, e3, hk, hj, hd⟩ := resC_ok h.1
  rw [e1, e2, ix_k, Int.toNat_natCast]
  exact i_Dur hk _ _ hv
theorem i_HPartsQ {T : Tab} {r : Int} {g : Nat → Int} (h : portOk T r g) (hL : lastB T g = false) (q : Int) : ∃ N B : Int, ∀ (v : Value) (w : World), BasAt w T r v →
    Calls Try.prog 155 #[.agg #[.int .i64 (g 0), .int .i64 (g 1), .int .i64 (g 2), .int .i64 (g 3), .int .i64 (g 4), .int .i64 (g 5 + 1), .int .i64 q], v] w (Ret w (.agg #[.int .i64 N, .int .i64 B, .int .i64 (nextD T r g)])) := by
  obtain ⟨k, n, j, e1, e2, e3, hk, hj, hd⟩ := resC_ok h.1
  unfold lastB at hL
  rw [e1, e2, e3, ix_k, Int.toNat_natCast] at hL
  have hj2 : j + 1 < T.dur (g 0) k n := by
    have : ¬ (j : Int) = (T.dur (g 0) k n : Int) - 1 := by simpa using hL
    omega
  refine ⟨T.top r (g 0) (k + (j + 1)) (n - (j + 1)), T.base r (g 0) (k + (j + 1)) (n - (j + 1)), fun v w hv => ?_⟩
  have hc := i_HParts0 hk (j + 1) hj2 q v w hv
  unfold nextD
  rw [e1, e2, e3, show (T.first + (k : Int) + ((j : Int) + 1) - T.first).toNat = k + (j + 1) from by omega]
  unfold rpV at hc
  have ec : ((j + 1 : Nat) : Int) = (j : Int) + 1 := by omega
  rw [ec] at hc
  exact hc
end Go.Proofs.Ytdeoampkbbbleaa
namespace Go.Proofs.Ytdeoampkbbbleaa
open Go.RowKit Pu
set_option linter.unusedVariables false
set_option linter.unusedSimpArgs false

theorem i_AgeBad (T : Tab) (r : Int) (n : Nat) (g : Nat → Nat → Int) (m : Nat) (d : Nat → Int) (C : Int) (hC : ¬ C = 0) (HCH : ∀ v vl vd w, BasAt w T r v → HAt w vl n g → DAt w vd m d → Calls Try.prog 153 #[v, vl, vd] w (Ret w (.int .i64 C))) (v vl vd : Value) (w : World) (hv : BasAt w T r v) (hl : HAt w vl n g) (hd : DAt w vd m d) :
    Calls Try.prog 30 #[v, vl, vd] w (RetAge w 0 (fun _ _ => 0) C) := by
  (have hv' := hv; obtain ⟨A, c, rfl, hc, hm, hbig, hI⟩ := hv; have ht : TabAt w T (.agg #[.int .i64 T.first, .slice A T.n c]) := ⟨A, c, rfl, hc, hm, hbig, hI⟩)
  have HL2 := Lib.hid hl
  have HD2 := Lib.hid hd
  obtain ⟨A2, c2, rfl, _, _, hHI⟩ := hl
  obtain ⟨A3, c3, rfl, _, _, hDI⟩ := hd
  replace HCH := Lib.hid HCH
  (have hz1 : ((C) != 0) = true := (by simpa using hC)); (have hz2 : ((C) == 0) = false := (by simpa using hC))
  clear hC
  go_enter Try.func30, Try.ntmps30
  go_wp2_with (first | (go_at_call 153; (with_reducible refine (HCH.out _ _ _ _ (hv'.up (by repeat' (first | (with_reducible exact Up.refl _) | (with_reducible assumption) | (with_reducible refine Up.alloc ?_ _) | (with_reducible refine Up.drew ?_) | (with_reducible refine Up.grow ?_ _) | (with_reducible refine Up.setCell ?_ (by (try simp); (try omega)) _)))) (HL2.out.up (by repeat' (first | (with_reducible exact Up.refl _) | (with_reducible assumption) | (with_reducible refine Up.alloc ?_ _) | (with_reducible refine Up.drew ?_) | (with_reducible refine Up.grow ?_ _) | (with_reducible refine Up.setCell ?_ (by (try simp); (try omega)) _)))) (HD2.out.up (by repeat' (first | (with_reducible exact Up.refl _) | (with_reducible assumption) | (with_reducible refine Up.alloc ?_ _) | (with_reducible refine Up.drew ?_) | (with_reducible refine Up.grow ?_ _) | (with_reducible refine Up.setCell ?_ (by (try simp); (try omega)) _))))).mono ?_); rintro e w' ⟨rfl, hb⟩; first | (obtain ⟨x, rfl⟩ := Grow.on x hb) | (obtain ⟨x, rfl⟩ := Grow.mk' hb)) | (go_at_call 142; (with_reducible refine (s_In _ _ _ _).mono ?_); rintro e w' ⟨rfl, rfl⟩) | (go_at_call 186; (with_reducible refine (i_In _ _ _ _).mono ?_); rintro e w' ⟨rfl, rfl⟩) | (go_at_call 222; (with_reducible refine (s_Rate _ _).mono ?_); rintro e w' ⟨rfl, rfl⟩) | (go_at_call 165; (with_reducible refine (i_Rate _ _).mono ?_); rintro e w' ⟨rfl, rfl⟩) | (go_at_call 262; (with_reducible refine (i_Years _ _).mono ?_); rintro e w' ⟨rfl, rfl⟩) | (go_at_call 227; (with_reducible refine (s_Amount6 _ _).mono ?_); rintro e w' ⟨rfl, rfl⟩) | (go_at_call 236; (with_reducible refine (s_Sum7 _ _).mono ?_); rintro e w' ⟨rfl, rfl⟩) | ((first | with_reducible refine wp_region_in x (by kernel_rfl) (by kernel_rfl) ?_ | with_reducible refine wp_region_here (by kernel_rfl) (by kernel_rfl) ?_); (repeat (go_big_quiet_step ((first | (go_at_call 153; with_reducible exact Ret.grow _ (HCH.out _ _ _ _ (hv'.up (by repeat' (first | (with_reducible exact Up.refl _) | (with_reducible assumption) | (with_reducible refine Up.alloc ?_ _) | (with_reducible refine Up.drew ?_) | (with_reducible refine Up.grow ?_ _) | (with_reducible refine Up.setCell ?_ (by (try simp); (try omega)) _)))) (HL2.out.up (by repeat' (first | (with_reducible exact Up.refl _) | (with_reducible assumption) | (with_reducible refine Up.alloc ?_ _) | (with_reducible refine Up.drew ?_) | (with_reducible refine Up.grow ?_ _) | (with_reducible refine Up.setCell ?_ (by (try simp); (try omega)) _)))) (HD2.out.up (by repeat' (first | (with_reducible exact Up.refl _) | (with_reducible assumption) | (with_reducible refine Up.alloc ?_ _) | (with_reducible refine Up.drew ?_) | (with_reducible refine Up.grow ?_ _) | (with_reducible refine Up.setCell ?_ (by (try simp); (try omega)) _)))))) | (go_at_call 142; with_reducible exact Ret.same _ (s_In _ _ _ _)) | (go_at_call 186; with_reducible exact Ret.same _ (i_In _ _ _ _)) | (go_at_call 222; with_reducible exact Ret.same _ (s_Rate _ _)) | (go_at_call 165; with_reducible exact Ret.same _ (i_Rate _ _)) | (go_at_call 262; with_reducible exact Ret.same _ (i_Years _ _)) | (go_at_call 227; with_reducible exact Ret.same _ (s_Amount6 _ _)) | (go_at_call 236; with_reducible exact Ret.same _ (s_Sum7 _ _)))))); refine wpQuiet_nil ?_; intro w' hw'; obtain ⟨x, rfl⟩ := hw'))
  go_ret2
  exact ⟨_, rfl, (by repeat' (first | (with_reducible exact Up.refl _) | (with_reducible assumption) | (with_reducible refine Up.alloc ?_ _) | (with_reducible refine Up.drew ?_) | (with_reducible refine Up.grow ?_ _) | (with_reducible refine Up.setCell ?_ (by (try simp); (try omega)) _))), OwnH.nil _ _ _⟩
set_option maxRecDepth 100000 in
set_option maxHeartbeats 8000000 in
theorem i_Age0 (T : Tab) (r : Int) (n : Nat) (g : Nat → Nat → Int) (d : Nat → Int) (hn : n ≤ 1048576) (hB : portB T r n g = true) (hin : ∀ i, i < n → inR (d i) 0 (g i 6) = true) (N : Nat) (G : Nat → Nat → Int) (C : Int)
    (HCH : ∀ v vl vd w, BasAt w T r v → HAt w vl n g → DAt w vd n d → Calls Try.prog 153 #[v, vl, vd] w (Ret w (.int .i64 0)))
    (hbad : (∃ i, i < n ∧ badAt T r g d i) → N = 0 ∧ C = 5) (hgood : (¬ ∃ i, i < n ∧ badAt T r g d i) → N = (ageP T g d n).1 ∧ G = (ageP T g d n).2 ∧ C = 0) (v vl vd : Value) (w : World) (hv : BasAt w T r v) (hl : HAt w vl n g) (hd : DAt w vd n d) :
    Calls Try.prog 30 #[v, vl, vd] w (RetAge w N G C) := by
  replace HCH := Lib.hid HCH
  have hB2 := portB_iff.1 hB
  have h30 := hB2.2.2
  have HOK := Lib.hid hB2.1
  have HIN := Lib.hid hin
  have HBAD := Lib.hid hbad
  have HGOOD := Lib.hid hgood
  (have hv' := hv; obtain ⟨A, c, rfl, hc, hm, hbig, hI⟩ := hv; have ht : TabAt w T (.agg #[.int .i64 T.first, .slice A T.n c]) := ⟨A, c, rfl, hc, hm, hbig, hI⟩)
  have HL2 := Lib.hid hl
  have HD2 := Lib.hid hd
  clear hB hB2 hin hbad hgood
  obtain ⟨A2, c2, rfl, _, _, hHI⟩ := hl
  have HHI := Lib.hid hHI
  obtain ⟨A3, c3, rfl, _, _, hDI⟩ := hd
  have HDI := Lib.hid hDI
  clear hHI hDI hI
  go_enter Try.func30, Try.ntmps30
  go_wp2_with (first | (go_at_call 153; (with_reducible refine (HCH.out _ _ _ _ (hv'.up (by repeat' (first | (with_reducible exact Up.refl _) | (with_reducible assumption) | (with_reducible refine Up.alloc ?_ _) | (with_reducible refine Up.drew ?_) | (with_reducible refine Up.grow ?_ _) | (with_reducible refine Up.setCell ?_ (by (try simp); (try omega)) _)))) (HL2.out.up (by repeat' (first | (with_reducible exact Up.refl _) | (with_reducible assumption) | (with_reducible refine Up.alloc ?_ _) | (with_reducible refine Up.drew ?_) | (with_reducible refine Up.grow ?_ _) | (with_reducible refine Up.setCell ?_ (by (try simp); (try omega)) _)))) (HD2.out.up (by repeat' (first | (with_reducible exact Up.refl _) | (with_reducible assumption) | (with_reducible refine Up.alloc ?_ _) | (with_reducible refine Up.drew ?_) | (with_reducible refine Up.grow ?_ _) | (with_reducible refine Up.setCell ?_ (by (try simp); (try omega)) _))))).mono ?_); rintro e w' ⟨rfl, hb⟩; first | (obtain ⟨x, rfl⟩ := Grow.on x hb) | (obtain ⟨x, rfl⟩ := Grow.mk' hb)) | (go_at_call 142; (with_reducible refine (s_In _ _ _ _).mono ?_); rintro e w' ⟨rfl, rfl⟩) | (go_at_call 186; (with_reducible refine (i_In _ _ _ _).mono ?_); rintro e w' ⟨rfl, rfl⟩) | (go_at_call 222; (with_reducible refine (s_Rate _ _).mono ?_); rintro e w' ⟨rfl, rfl⟩) | (go_at_call 165; (with_reducible refine (i_Rate _ _).mono ?_); rintro e w' ⟨rfl, rfl⟩) | (go_at_call 262; (with_reducible refine (i_Years _ _).mono ?_); rintro e w' ⟨rfl, rfl⟩) | (go_at_call 227; (with_reducible refine (s_Amount6 _ _).mono ?_); rintro e w' ⟨rfl, rfl⟩) | (go_at_call 236; (with_reducible refine (s_Sum7 _ _).mono ?_); rintro e w' ⟨rfl, rfl⟩) | ((first | with_reducible refine wp_region_in x (by kernel_rfl) (by kernel_rfl) ?_ | with_reducible refine wp_region_here (by kernel_rfl) (by kernel_rfl) ?_); (repeat (go_big_quiet_step ((first | (go_at_call 153; with_reducible exact Ret.grow _ (HCH.out _ _ _ _ (hv'.up (by repeat' (first | (with_reducible exact Up.refl _) | (with_reducible assumption) | (with_reducible refine Up.alloc ?_ _) | (with_reducible refine Up.drew ?_) | (with_reducible refine Up.grow ?_ _) | (with_reducible refine Up.setCell ?_ (by (try simp); (try omega)) _)))) (HL2.out.up (by repeat' (first | (with_reducible exact Up.refl _) | (with_reducible assumption) | (with_reducible refine Up.alloc ?_ _) | (with_reducible refine Up.drew ?_) | (with_reducible refine Up.grow ?_ _) | (with_reducible refine Up.setCell ?_ (by (try simp); (try omega)) _)))) (HD2.out.up (by repeat' (first | (with_reducible exact Up.refl _) | (with_reducible assumption) | (with_reducible refine Up.alloc ?_ _) | (with_reducible refine Up.drew ?_) | (with_reducible refine Up.grow ?_ _) | (with_reducible refine Up.setCell ?_ (by (try simp); (try omega)) _)))))) | (go_at_call 142; with_reducible exact Ret.same _ (s_In _ _ _ _)) | (go_at_call 186; with_reducible exact Ret.same _ (i_In _ _ _ _)) | (go_at_call 222; with_reducible exact Ret.same _ (s_Rate _ _)) | (go_at_call 165; with_reducible exact Ret.same _ (i_Rate _ _)) | (go_at_call 262; with_reducible exact Ret.same _ (i_Years _ _)) | (go_at_call 227; with_reducible exact Ret.same _ (s_Amount6 _ _)) | (go_at_call 236; with_reducible exact Ret.same _ (s_Sum7 _ _)))))); refine wpQuiet_nil ?_; intro w' hw'; obtain ⟨x, rfl⟩ := hw'))
  go_loopw [9, 22] (fun o i wr => ∃ (k : Nat) (y : Grow (w.alloc (.cells #[.int .i64 T.first, .slice A T.n c, .int .i64 r] 33))), k ≤ n ∧ i = .int .i64 k ∧ wr = y.to ∧ OwnH (w.alloc (.cells #[.int .i64 T.first, .slice A T.n c, .int .i64 r] 33)) y.to o (ageP T g d k).1 (ageP T g d k).2 ∧ Hid (∀ j, j < k → ¬ badAt T r g d j)) (fun o i _ => n - (intOf i).toNat)
  case atStart =>
    obtain ⟨y, hy⟩ := Grow.mk' (show Below (w.alloc (.cells #[.int .i64 T.first, .slice A T.n c, .int .i64 r] 33)).heap.size (w.alloc (.cells #[.int .i64 T.first, .slice A T.n c, .int .i64 r] 33)) (x.to.alloc (.cells #[] 113)) from x.below.alloc x.size _)
    exact ⟨0, y, Nat.zero_le _, rfl, hy, by rw [← hy]; exact OwnH.start _ x.size _, Lib.hid fun j hj => by omega⟩
  case round =>
    clear hb
    obtain ⟨k, x, hk, rfl, rfl, hown, HNB⟩ := hrel
    have HOWN := Lib.hid hown
    clear hown
    by_cases hlt : k < n
    · have hok := HOK.out k hlt
      obtain ⟨b2, off2, rfl, ib, e0, e1, e2, e3, e4, e5, e6⟩ := ((HHI.out.up (Up.alloc (Up.refl w) (.cells #[.int .i64 T.first, .slice A T.n c, .int .i64 r] 33))).up x.below).seven hlt
      obtain ⟨b3, off3, rfl, ib3, f0⟩ := ((HDI.out.up (Up.alloc (Up.refl w) (.cells #[.int .i64 T.first, .slice A T.n c, .int .i64 r] 33))).up x.below) k hlt
      obtain ⟨hT, hr0, hr1, ha1, ha2, hy1, hy2, hq1, hq2⟩ := age_facts hok
      have hdk := inR_true.1 (HIN.out k hlt)
      obtain ⟨Q, hQ⟩ : ∃ Q, g k 6 - d k = Q := ⟨_, rfl⟩
      have iQ : wrap64 (g k 6 - d k) = Q := by rw [hQ]; exact IntWalk.wrap64_in Q (by omega)
      go_wp2_with fail
      go_region
      have hQB := (Blk.new x.to 113 #[.int .i64 (g k 0), .int .i64 (g k 1), .int .i64 (g k 2), .int .i64 (g k 3), .int .i64 (g k 4), .int .i64 (g k 5), .int .i64 Q]).drew
      have hup : Up x.to (x.to.alloc (.cells #[.int .i64 (g k 0), .int .i64 (g k 1), .int .i64 (g k 2), .int .i64 (g k 3), .int .i64 (g k 4), .int .i64 (g k 5), .int .i64 Q] 113)).drew := (Up.alloc (Up.refl _) _).drew
      generalize (x.to.alloc (.cells #[.int .i64 (g k 0), .int .i64 (g k 1), .int .i64 (g k 2), .int .i64 (g k 3), .int .i64 (g k 4), .int .i64 (g k 5), .int .i64 Q] 113)).drew = w5 at *
      have hK := (Blk.new w 33 #[.int .i64 T.first, .slice A T.n c, .int .i64 r]).up ((show Up (w.alloc (.cells #[.int .i64 T.first, .slice A T.n c, .int .i64 r] 33)) x.to from x.below).trans hup)
      have hsz : w.heap.size < x.to.heap.size := by have := x.size; simp at this; omega
      have hne1 : ¬ w.heap.size = x.to.heap.size := by omega
      have hne2 : ¬ x.to.heap.size = w.heap.size := by omega
      have iy : IntKind.i64.wrap (g k 5 + 1) = g k 5 + 1 := IntWalk.i64_in _ (by omega)
      have q0 := hQB.cell 0; have q1 := hQB.cell 1; have q2 := hQB.cell 2; have q3 := hQB.cell 3; have q4 := hQB.cell 4; have q5 := hQB.cell 5; have q6 := hQB.cell 6; have iq := hQB.inw; have qf := hQB.frozen; have c0 := hK.cell 0; have c1 := hK.cell 1; have c2' := hK.cell 2; have ic := hK.inw
      clear e0 e1 e2 e3 e4 e5 e6 f0 iQ
      go_wp2_with fail
      have hQB6 : Blk (w5.setCell ⟨x.to.heap.size, 5, none⟩ (.int .i64 (g k 5 + 1))) x.to.heap.size 113 #[.int .i64 (g k 0), .int .i64 (g k 1), .int .i64 (g k 2), .int .i64 (g k 3), .int .i64 (g k 4), .int .i64 (g k 5 + 1), .int .i64 Q] := by simpa using hQB.same 5 (.int .i64 (g k 5 + 1))
      have hup6 : Up x.to (w5.setCell ⟨x.to.heap.size, 5, none⟩ (.int .i64 (g k 5 + 1))) := Up.setCell hup (Nat.le_refl _) _
      clear q0 q1 q2 q3 q4 q5 q6 iq qf c0 c1 c2' ic hQB hup hK
      generalize w5.setCell ⟨x.to.heap.size, 5, none⟩ (.int .i64 (g k 5 + 1)) = w6 at *
      have hQB := hQB6; have hup := hup6
      clear hQB6 hup6
      have hK := (Blk.new w 33 #[.int .i64 T.first, .slice A T.n c, .int .i64 r]).up ((show Up (w.alloc (.cells #[.int .i64 T.first, .slice A T.n c, .int .i64 r] 33)) x.to from x.below).trans hup)
      have huw : Up w w6 := ((Up.alloc (Up.refl w) (.cells #[.int .i64 T.first, .slice A T.n c, .int .i64 r] 33)).trans (show Up _ x.to from x.below)).trans hup
      have q0 := hQB.cell 0; have q1 := hQB.cell 1; have q2 := hQB.cell 2; have q3 := hQB.cell 3; have q4 := hQB.cell 4; have q5 := hQB.cell 5; have q6 := hQB.cell 6; have iq := hQB.inw; have qf := hQB.frozen; have c0 := hK.cell 0; have c1 := hK.cell 1; have c2' := hK.cell 2; have ic := hK.inw
      by_cases hq0 : Q = 0
      · have HSK : Hid (skipB T (g k) (d k) = true) := Lib.hid (by unfold skipB; rw [hQ, hq0]; simp)
        have hz : (Q == 0) = true := by simpa using hq0
        clear hq0 hQ
        go_quiet (fail)
        go_wp2
        go_roundw
        case rel =>
          refine ⟨k + 1, ⟨_, ?_⟩, by omega, by go_num, rfl, ?_, Lib.hid fun j hj => ?_⟩
          · exact (show Up (w.alloc (.cells #[.int .i64 T.first, .slice A T.n c, .int .i64 r] 33)) x.to from x.below).trans (Up.drewN hup _)
          · rw [ageP_skip HSK.out]; exact HOWN.out.up (Up.drewN hup _)
          · rcases Nat.lt_or_ge j k with h | h
            · exact HNB.out j h
            · rw [show j = k from by omega]; exact fun hb => by have h2 := hb.1; rw [HSK.out] at h2; cases h2
        case measure => simp [intOf]; omega
      have hz : (Q == 0) = false := by simpa using hq0
      have HDU := Lib.hid fun v w h => i_DurQ hok v w h
      have hLB : lastB T (g k) = decide (g k 5 = (T.dur (g k 0) (ix T (g k 1)) (g k 2).toNat : Int) - 1) := rfl
      obtain ⟨U, hU⟩ : ∃ U, T.dur (g k 0) (ix T (g k 1)) (g k 2).toNat = U := ⟨_, rfl⟩
      rw [hU] at hLB
      have HDU2 : ∀ v w, BasAt w T r v → Calls Try.prog 154 #[v, .agg #[.int .i64 (g k 0), .int .i64 (g k 1), .int .i64 (g k 2), .int .i64 (g k 3), .int .i64 (g k 4)]] w (Ret w (.int .i64 U)) := fun v w h => by have := HDU.out v w h; rwa [hU] at this
      replace HDU2 := Lib.hid HDU2
      clear HDU
      by_cases hL : lastB T (g k) = true
      · have HSK : Hid (skipB T (g k) (d k) = true) := Lib.hid (by unfold skipB; rw [hL]; simp)
        have hlu : (g k 5 + 1 == (U : Int)) = true := by rw [hLB] at hL; simp at hL; simp; omega
        clear hq0 hQ hL hLB hU
        go_region_held3 (fun w' => w'.cell? ⟨w.heap.size, 0, none⟩ = some (.int .i64 T.first) ∧ w'.cell? ⟨w.heap.size, 1, none⟩ = some (.slice A T.n c) ∧ w'.cell? ⟨w.heap.size, 2, none⟩ = some (.int .i64 r) ∧ w'.cell? ⟨x.to.heap.size, 0, none⟩ = some (.int .i64 (g k 0)) ∧ w'.cell? ⟨x.to.heap.size, 1, none⟩ = some (.int .i64 (g k 1)) ∧ w'.cell? ⟨x.to.heap.size, 2, none⟩ = some (.int .i64 (g k 2)) ∧ w'.cell? ⟨x.to.heap.size, 3, none⟩ = some (.int .i64 (g k 3)) ∧ w'.cell? ⟨x.to.heap.size, 4, none⟩ = some (.int .i64 (g k 4)) ∧ w'.cell? ⟨x.to.heap.size, 5, none⟩ = some (.int .i64 (g k 5 + 1)) ∧ w'.cell? ⟨x.to.heap.size, 6, none⟩ = some (.int .i64 Q)) ((repeat' apply And.intro) <;> go_simp)
          (first | (go_at_call 154; ((with_reducible refine (HDU2.out _ _ (hv'.up (huw.trans (by repeat' (first | (with_reducible exact Up.refl _) | (with_reducible assumption) | (with_reducible refine Up.alloc ?_ _) | (with_reducible refine Up.drew ?_) | (with_reducible refine Up.grow ?_ _) | (with_reducible refine Up.setCell ?_ (by (try simp); (try omega)) _)))))).mono ?_); rintro e w7 ⟨rfl, h7⟩; have h7 := (Up.drew (Up.refl w6)).trans h7; have hQB := hQB.up h7; have hK := hK.up h7; have hup := hup.trans h7; have q0 := hQB.cell 0; have q1 := hQB.cell 1; have q2 := hQB.cell 2; have q3 := hQB.cell 3; have q4 := hQB.cell 4; have q5 := hQB.cell 5; have q6 := hQB.cell 6; have iq := hQB.inw; have qf := hQB.frozen; have c0 := hK.cell 0; have c1 := hK.cell 1; have c2' := hK.cell 2; have ic := hK.inw)))
        all_goals
          go_wp2
          go_roundw
          case rel =>
            refine ⟨k + 1, ⟨_, ?_⟩, by omega, by go_num, rfl, ?_, Lib.hid fun j hj => ?_⟩
            · exact (show Up (w.alloc (.cells #[.int .i64 T.first, .slice A T.n c, .int .i64 r] 33)) x.to from x.below).trans hup
            · rw [ageP_skip HSK.out]; exact HOWN.out.up hup
            · rcases Nat.lt_or_ge j k with h | h
              · exact HNB.out j h
              · rw [show j = k from by omega]; exact fun hb => by have h2 := hb.1; rw [HSK.out] at h2; cases h2
          case measure => simp [intOf]; omega
      have hL := Bool.eq_false_iff.2 hL
      have HSK : Hid (skipB T (g k) (d k) = false) := Lib.hid (by unfold skipB; rw [hL, hQ]; simpa using hq0)
      have hlu : (g k 5 + 1 == (U : Int)) = false := by rw [hLB] at hL; simp at hL; simp; omega
      obtain ⟨N1, B1, HPQ⟩ := i_HPartsQ hok hL Q
      have HU : Hid (ageU (g k) (d k) = fun j => if j = 5 then g k 5 + 1 else if j = 6 then Q else g k j) := Lib.hid (by unfold ageU; rw [hQ])
      obtain ⟨Dn, hDN⟩ : ∃ Dn, nextD T r (g k) = Dn := ⟨_, rfl⟩
      rw [hDN] at HPQ
      replace HPQ := Lib.hid HPQ
      have HND := Lib.hid hDN
      clear hq0 hQ hL hLB hU hDN
      go_region_held3 (fun w' => w'.cell? ⟨w.heap.size, 0, none⟩ = some (.int .i64 T.first) ∧ w'.cell? ⟨w.heap.size, 1, none⟩ = some (.slice A T.n c) ∧ w'.cell? ⟨w.heap.size, 2, none⟩ = some (.int .i64 r) ∧ w'.cell? ⟨x.to.heap.size, 0, none⟩ = some (.int .i64 (g k 0)) ∧ w'.cell? ⟨x.to.heap.size, 1, none⟩ = some (.int .i64 (g k 1)) ∧ w'.cell? ⟨x.to.heap.size, 2, none⟩ = some (.int .i64 (g k 2)) ∧ w'.cell? ⟨x.to.heap.size, 3, none⟩ = some (.int .i64 (g k 3)) ∧ w'.cell? ⟨x.to.heap.size, 4, none⟩ = some (.int .i64 (g k 4)) ∧ w'.cell? ⟨x.to.heap.size, 5, none⟩ = some (.int .i64 (g k 5 + 1)) ∧ w'.cell? ⟨x.to.heap.size, 6, none⟩ = some (.int .i64 Q)) ((repeat' apply And.intro) <;> go_simp)
        (first | (go_at_call 154; ((with_reducible refine (HDU2.out _ _ (hv'.up (huw.trans (by repeat' (first | (with_reducible exact Up.refl _) | (with_reducible assumption) | (with_reducible refine Up.alloc ?_ _) | (with_reducible refine Up.drew ?_) | (with_reducible refine Up.grow ?_ _) | (with_reducible refine Up.setCell ?_ (by (try simp); (try omega)) _)))))).mono ?_); rintro e w7 ⟨rfl, h7⟩; have h7 := (Up.drew (Up.refl w6)).trans h7; have hQB := hQB.up h7; have hK := hK.up h7; have hup := hup.trans h7; have huw := huw.trans h7; have q0 := hQB.cell 0; have q1 := hQB.cell 1; have q2 := hQB.cell 2; have q3 := hQB.cell 3; have q4 := hQB.cell 4; have q5 := hQB.cell 5; have q6 := hQB.cell 6; have iq := hQB.inw; have qf := hQB.frozen; have c0 := hK.cell 0; have c1 := hK.cell 1; have c2' := hK.cell 2; have ic := hK.inw)))
      all_goals
        by_cases hDn : Dn = 0
        · obtain ⟨hN, hC⟩ := HBAD.out ⟨k, hlt, HSK.out, by rw [HND.out, hDn]⟩
          subst hN hC
          have hdz : (Dn == 0) = true := by simpa using hDn
          clear hDn
          go_wp2_with (go_at_call 155; (with_reducible refine (HPQ.out _ _ (hv'.up huw)).mono ?_); rintro e w8 ⟨rfl, h8⟩; have huw := huw.trans h8)
          change (_ : Act → World → Prop) (Act.put _ _ (Value.int IntKind.i64 Dn)) _
          go_wp2
          go_ret2
          exact ⟨_, rfl, (by repeat' (first | (with_reducible exact Up.refl _) | (with_reducible assumption) | (with_reducible refine Up.alloc ?_ _) | (with_reducible refine Up.drew ?_) | (with_reducible refine Up.grow ?_ _) | (with_reducible refine Up.setCell ?_ (by (try simp); (try omega)) _))), OwnH.nil _ _ _⟩
        · have HNZ : Hid (¬ nextD T r (g k) = 0) := Lib.hid (by rw [HND.out]; exact hDn)
          have hdz : (Dn == 0) = false := by simpa using hDn
          have hle := ageP_le T g d k
          clear hDn
          go_wp2_with (go_at_call 155; (with_reducible refine (HPQ.out _ _ (hv'.up huw)).mono ?_); rintro e w8 ⟨rfl, h8⟩; have hQB := hQB.up h8; have hK := hK.up h8; have hup := hup.trans h8; have huw := huw.trans h8; have q0 := hQB.cell 0; have q1 := hQB.cell 1; have q2 := hQB.cell 2; have q3 := hQB.cell 3; have q4 := hQB.cell 4; have q5 := hQB.cell 5; have q6 := hQB.cell 6; have iq := hQB.inw; have qf := hQB.frozen; have c0 := hK.cell 0; have c1 := hK.cell 1; have c2' := hK.cell 2; have ic := hK.inw)
          change (_ : Act → World → Prop) (Act.put _ _ (Value.int IntKind.i64 Dn)) _
          go_wp2_with (at_builtin; refine wp_pushH (W := (w.alloc (.cells #[.int .i64 T.first, .slice A T.n c, .int .i64 r] 33))) (u := fun j => if j = 5 then g k 5 + 1 else if j = 6 then Q else g k j) ((show Up (w.alloc (.cells #[.int .i64 T.first, .slice A T.n c, .int .i64 r] 33)) x.to from x.below).trans hup) (HOWN.out.up hup) rfl _ _ rfl rfl rfl (by omega) ?_; intro v' y hown2 hg2)
          go_roundw
          case rel =>
            refine ⟨k + 1, y, by omega, by go_num, rfl, ?_, Lib.hid fun j hj => ?_⟩
            · rw [ageP_add HSK.out, HU.out]; exact hown2
            · rcases Nat.lt_or_ge j k with h | h
              · exact HNB.out j h
              · rw [show j = k from by omega]; exact fun hb => HNZ.out hb.2
          case measure => simp [intOf]; omega
    · obtain ⟨hN, hG, hC⟩ := HGOOD.out (by rintro ⟨i, hi, hb2⟩; exact HNB.out i (by omega) hb2)
      have HE : Hid (k = n) := Lib.hid (by omega)
      subst hC
      have HN := Lib.hid hN
      have HG := Lib.hid hG
      clear hN hG
      go_wp2
      go_ret2
      exact ⟨_, rfl, (by repeat' (first | (with_reducible exact Up.refl _) | (with_reducible assumption) | (with_reducible refine Up.alloc ?_ _) | (with_reducible refine Up.drew ?_) | (with_reducible refine Up.grow ?_ _) | (with_reducible refine Up.setCell ?_ (by (try simp); (try omega)) _))), by rw [HN.out, HG.out, ← HE.out]; exact HOWN.out.base (by simp)⟩
theorem i_AgePortfolio (T : Tab) (r : Int) (n : Nat) (g : Nat → Nat → Int) (m : Nat) (d : Nat → Int) (hn : n ≤ 1048576) (hm : m ≤ 1048576) (v vl vd : Value) (w : World) (hv : BasAt w T r v) (hl : HAt w vl n g) (hd : DAt w vd m d) :
    Calls Try.prog 30 #[v, vl, vd] w (RetAge w (ageN T r n g m d) (ageG T r n g m d) (ageC T r n g m d)) := by
  by_cases hB : portB T r n g = true
  case neg =>
    rw [ret_bad (ageC_1 hB) (by omega)]
    exact i_AgeBad T r n g m d 1 (by omega) (fun v vl vd w h1 h2 h3 => i_Chk1 T r n g m d hn (Bool.eq_false_iff.2 hB) v vl vd w h1 h2 h3) v vl vd w hv hl hd
  by_cases hin : inOk n g m d
  case neg =>
    rw [ret_bad (ageC_2 hB hin) (by omega)]
    exact i_AgeBad T r n g m d 2 (by omega) (fun v vl vd w h1 h2 h3 => i_Chk2 T r n g m d hn hm hB 2 (fun h => absurd h hin) (fun _ => rfl) v vl vd w h1 h2 h3) v vl vd w hv hl hd
  have hin2 := hin
  obtain ⟨rfl, hin3⟩ := hin2
  have HCH : ∀ v vl vd w, BasAt w T r v → HAt w vl m g → DAt w vd m d → Calls Try.prog 153 #[v, vl, vd] w (Ret w (.int .i64 0)) := fun v vl vd w h1 h2 h3 => i_Chk2 T r m g m d hn hm hB 0 (fun _ => rfl) (fun h => absurd hin h) v vl vd w h1 h2 h3
  by_cases hb : ∃ i, i < m ∧ badAt T r g d i
  · rw [ret_bad (ageC_5 hB hin hb) (by omega)]
    exact i_Age0 T r m g d hn hB hin3 0 _ 5 HCH (fun _ => ⟨rfl, rfl⟩) (fun h => absurd hb h) v vl vd w hv hl hd
  · rw [ret_okA (ageC_0 hB hin hb)]
    exact i_Age0 T r m g d hn hB hin3 _ _ 0 HCH (fun h => absurd h hb) (fun _ => ⟨rfl, rfl, rfl⟩) v vl vd w hv hl hd
theorem ageN_le (T : Tab) (r : Int) (n : Nat) (g : Nat → Nat → Int) (m : Nat) (d : Nat → Int) : ageN T r n g m d ≤ n := by
  unfold ageN
  split
  · exact ageP_le _ _ _ _
  · omega
end Go.Proofs.Ytdeoampkbbbleaa
namespace Go.Proofs.Ytdeoampkbbbleaa
open Go.RowKit Pu
set_option linter.unusedVariables false
set_option linter.unusedSimpArgs false

/-- What mark leaves of a basis. -/
def RetMarkBH (w : World) (v : Value) (k : Int) (n : Nat) (e : Ending) (w' : World) : Prop := e = .returned (.int .i64 (k + n)) ∧ ∃ A c f q, v = .agg #[.int .i64 f, .slice A n c, .int .i64 q] ∧ w.grownBy w' (Value.slice A n c).ownBlock
theorem l_MarkBH (T : Tab) (r : Int) (v : Value) (k0 : Int) (h0 : 0 ≤ k0) (h1 : k0 ≤ 1048577) (w0 w : World) (h : BasOwn w0 w T r v) :
    Calls Try.prog 32 #[v, .int .i64 k0] w (RetMarkBH w v k0 T.n) := by
  obtain ⟨hn, A, c, rfl, hown⟩ := h
  go_enter Try.func32, Try.ntmps32
  go_wp2_with (go_at_call 156; refine (l_MarkT T (.agg #[.int .i64 T.first, .slice A T.n c]) _ h0 h1 w0 _ ⟨hn, A, c, rfl, hown.up (by repeat' (first | (with_reducible exact Up.refl _) | (with_reducible assumption) | (with_reducible refine Up.alloc ?_ _) | (with_reducible refine Up.drew ?_) | (with_reducible refine Up.grow ?_ _) | (with_reducible refine Up.setCell ?_ (by (try simp); (try omega)) _)))⟩).mono ?_; rintro e w' ⟨rfl, A', c', f', he, hg⟩)
  go_ret
  exact ⟨rfl, A, c, _, _, rfl, (World.grownBy_alloc w _ _).trans hg⟩

set_option maxHeartbeats 400000 in
theorem l_MarkW (v : Value) (xs : List Int) (hn : xs.length ≤ 1048576) (k0 : Int) (h0 : 0 ≤ k0) (h1 : k0 ≤ 10000000) (w0 w : World) (h : Own w0 w v xs) :
    Calls Try.prog 34 #[v, .int .i64 k0] w (RetMark w0 w v k0 xs.length) := by
  have hf := h.form
  obtain ⟨A, c, rfl, _, _, hA⟩ := hf
  rcases Nat.eq_zero_or_pos xs.length with hz | hp
  · rw [hz] at h ⊢
    have e : Own w0 w (.slice A 0 c) (marks k0 0) := by unfold Own at h ⊢; rw [hz] at h; rw [marks_len]; simpa [List.length_eq_zero_iff.1 hz, marks] using h
    have E := Lib.hid e
    clear h e hA
    go_enter Try.func34, Try.ntmps34
    go_wp2
    go_loop [1, 5] (fun m i => m = .int .i64 k0 ∧ i = .int .i64 0) (fun _ _ => 0)
    case atStart => exact ⟨rfl, rfl⟩
    case round =>
      obtain ⟨rfl, rfl⟩ := hrel
      go_wp2
      go_ret
      exact ⟨by simp, E.out, World.grownBy.refl w _⟩
  obtain ⟨g, rfl, hb, hlt, hcell, hfz⟩ := hA hp
  unfold Own at h
  generalize hys : xs.map (Value.int .i64) = ys at h
  have hl : ys.length = xs.length := by rw [← hys]; simp
  clear hys hcell hfz
  generalize xs.length = n at *
  have H := Lib.hid h
  clear h
  go_enter Try.func34, Try.ntmps34
  go_wp2
  go_loopw [1, 5] (fun m i wr => ∃ (k : Nat) (ys' : List Value), k ≤ n ∧ i = .int .i64 k ∧ m = .int .i64 (k0 + k) ∧ w.grownBy wr (some g) ∧ wr.ownsRow w0.heap.size 2 1 (.slice (some ⟨g, 0, none⟩) n c) n ys' ∧ ys'.length = n ∧ ∀ j, j < k → ys'[j]? = some (.int .i64 (k0 + j))) (fun _ i _ => n - (intOf i).toNat)
  case atStart => exact ⟨0, ys, Nat.zero_le _, rfl, by simp, World.grownBy.refl w _, H.out, hl, fun j hj => by omega⟩
  case round =>
    clear H hl
    obtain ⟨k, ys', hk, rfl, rfl, hgr, hown, hl, hf⟩ := hrel
    have HG := Lib.hid hgr
    have HO := Lib.hid hown
    have HF := Lib.hid hf
    have HL := Lib.hid hl
    clear hown hf hl hgr
    by_cases hlt : k < n
    · have hc2 : wr.cell? ⟨g, k, none⟩ = some (ys'[k]'(by rw [HL.out]; exact hlt)) := by
        rw [HO.out.cellAt k (by omega)]; exact List.getElem?_eq_getElem _
      have hfz : wr.frozen? ⟨g, k, none⟩ = false := HO.out.frozenAt k
      have hst := HO.out.stored k (.int .i64 (k0 + k))
      have HS := Lib.hid hst
      clear hst
      go_wp2
      go_roundw
      case rel =>
        obtain ⟨h1, h2⟩ := HS.out
        refine ⟨k + 1, ys'.set k (.int .i64 (k0 + k)), by omega, by go_num, by go_num, HG.out.trans h2, h1, by simp [HL.out], fun j hj => ?_⟩
        by_cases e : j = k
        · subst e; rw [List.getElem?_set_self (by rw [HL.out]; exact hlt)]
        · rw [List.getElem?_set_ne (Ne.symm e)]; exact HF.out j (by omega)
      case measure => simp [intOf]; omega
    · go_wp2
      go_ret
      exact ⟨ret_int (by rw [show k = n from by omega]), own_of_list HO.out HL.out (fun j hj => HF.out j (by omega)), HG.out⟩

theorem OwnH.far {w w1 w2 : World} {v n g} {row : Option Nat} (h : OwnH w w1 v n g) (u : w1.grownBy w2 row) (hne : ∀ k, row = some k → v.ownBlock ≠ some k) : OwnH w w2 v n g := by
  obtain ⟨ys, h1, h2, h3⟩ := h
  refine ⟨ys, World.ownsRow.kept h1 u ?_, h2, h3⟩
  cases hr : row with
  | none => cases v.ownBlock <;> simp
  | some k =>
    have := hne k hr
    cases hv : v.ownBlock with
    | none => simp
    | some q => rw [hv] at this; simpa using fun e => this (by rw [e])
theorem OwnH.lt {w w1 : World} {v n g} (h : OwnH w w1 v n g) : ∀ k, v.ownBlock = some k → w.heap.size ≤ k ∧ k < w1.heap.size := by
  obtain ⟨ys, h1, h2, h3⟩ := h
  exact World.ownsRow.lt h1
theorem rd_D {w : World} {v : Value} {m : Nat} {d : Nat → Int} (h : Rd w v ((List.range m).map d)) : DAt w v m d := by
  obtain ⟨A, c, h1, h2, h3, h4⟩ := h
  have hl : ((List.range m).map d).length = m := by simp
  rw [hl] at h1 h2 h4
  refine ⟨A, c, h1, h2, h3, fun i hi => ?_⟩
  obtain ⟨b, off, e, hb, hc⟩ := h4 i hi
  exact ⟨b, off, e, hb, by rw [hc]; simp [hi]⟩
set_option maxRecDepth 100000 in
set_option maxHeartbeats 8000000 in
theorem l_AgePortfolio (T : Tab) (r : Int) (A : Option Addr) (c : Nat) (hn : T.n ≤ c) (hc : c ≤ 9223372036854775807) (A' : Option Addr) (n c' : Nat) (g : Nat → Nat → Int) (hn' : n ≤ c') (hc' : c' ≤ 9223372036854775807) (A'' : Option Addr) (m c'' : Nat) (d : Nat → Int) (hn'' : m ≤ c'') (hc'' : c'' ≤ 9223372036854775807)
    (w : World) (hI : Ints w A T.n T.f) (hH : HInts w A' n g) (hD : Ints w A'' m d) (N : Nat) (G : Nat → Nat → Int) (C : Int) (hN : N ≤ n)
    (HS : Hid (n ≤ 1048576 → m ≤ 1048576 → ∀ v vl vd w, BasAt w T r v → HAt w vl n g → DAt w vd m d → Calls Try.prog 28 #[v, vl, vd] w (RetAge w N G C))) (HI : Hid (n ≤ 1048576 → m ≤ 1048576 → ∀ v vl vd w, BasAt w T r v → HAt w vl n g → DAt w vd m d → Calls Try.prog 30 #[v, vl, vd] w (RetAge w N G C))) :
    Calls Try.prog 5 #[.agg #[.int .i64 T.first, .slice A T.n c, .int .i64 r], .slice A' n c', .slice A'' m c''] w (Ret w (.bool true)) := by
  by_cases hm : m ≤ 1048576
  case neg =>
    have hmb : decide ((1048576 : Int) < m) = true := by simp; omega
    go_enter Try.func5, Try.ntmps5
    go_wp2
    go_ret
    exact ⟨rfl, (by repeat' (first | (with_reducible exact Up.refl _) | (with_reducible assumption) | (with_reducible refine Up.alloc ?_ _) | (with_reducible refine Up.drew ?_) | (with_reducible refine Up.grow ?_ _) | (with_reducible refine Up.setCell ?_ (by (try simp); (try omega)) _)))⟩
  by_cases hb : T.n ≤ 1048576
  case neg =>
    have HZ1 : ∀ w, Calls Try.prog 18 #[.agg #[.int .i64 T.first, .slice A T.n c, .int .i64 r], .int .i64 1048576] w (Ret w (.int .i64 (-1))) := fun w => by have h := l_SzB T r A c (by omega) 1048576 (by omega) (by omega) w; rwa [if_pos (by omega)] at h
    replace HZ1 := Lib.hid HZ1
    go_enter Try.func5, Try.ntmps5
    go_wp2_with (go_at_call 18; refine (HZ1.out _).mono ?_; rintro e w' ⟨rfl, hb⟩; first | (obtain ⟨x, rfl⟩ := Grow.on x hb) | (obtain ⟨x, rfl⟩ := Grow.mk' hb))
    go_ret
    exact ⟨rfl, (by repeat' (first | (with_reducible exact Up.refl _) | (with_reducible assumption) | (with_reducible refine Up.alloc ?_ _) | (with_reducible refine Up.drew ?_) | (with_reducible refine Up.grow ?_ _) | (with_reducible refine Up.setCell ?_ (by (try simp); (try omega)) _)))⟩
  have HZ1 : ∀ w, Calls Try.prog 18 #[.agg #[.int .i64 T.first, .slice A T.n c, .int .i64 r], .int .i64 1048576] w (Ret w (.int .i64 (1048576 - T.n))) := fun w => by have h := l_SzB T r A c (by omega) 1048576 (by omega) (by omega) w; rwa [if_neg (by omega)] at h
  replace HZ1 := Lib.hid HZ1
  by_cases hbb : T.n + n ≤ 1048576
  case neg =>
    have HZ2 : ∀ w, Calls Try.prog 19 #[.slice A' n c', .int .i64 (1048576 - T.n)] w (Ret w (.int .i64 (-1))) := fun w => by have h := l_SzH A' n c' (by omega) (1048576 - T.n) (by omega) (by omega) w; rwa [if_pos (by omega)] at h
    replace HZ2 := Lib.hid HZ2
    go_enter Try.func5, Try.ntmps5
    go_wp2_with (first | (go_at_call 18; (with_reducible refine (HZ1.out _).mono ?_); rintro e w' ⟨rfl, hb⟩; first | (obtain ⟨x, rfl⟩ := Grow.on x hb) | (obtain ⟨x, rfl⟩ := Grow.mk' hb)) | (go_at_call 19; (with_reducible refine (HZ2.out _).mono ?_); rintro e w' ⟨rfl, hb⟩; first | (obtain ⟨x, rfl⟩ := Grow.on x hb) | (obtain ⟨x, rfl⟩ := Grow.mk' hb)) | (go_at_call 142; (with_reducible refine (s_In _ _ _ _).mono ?_); rintro e w' ⟨rfl, rfl⟩) | (go_at_call 186; (with_reducible refine (i_In _ _ _ _).mono ?_); rintro e w' ⟨rfl, rfl⟩) | (go_at_call 222; (with_reducible refine (s_Rate _ _).mono ?_); rintro e w' ⟨rfl, rfl⟩) | (go_at_call 165; (with_reducible refine (i_Rate _ _).mono ?_); rintro e w' ⟨rfl, rfl⟩) | (go_at_call 262; (with_reducible refine (i_Years _ _).mono ?_); rintro e w' ⟨rfl, rfl⟩) | (go_at_call 227; (with_reducible refine (s_Amount6 _ _).mono ?_); rintro e w' ⟨rfl, rfl⟩) | (go_at_call 236; (with_reducible refine (s_Sum7 _ _).mono ?_); rintro e w' ⟨rfl, rfl⟩) | ((first | with_reducible refine wp_region_in x (by kernel_rfl) (by kernel_rfl) ?_ | with_reducible refine wp_region_here (by kernel_rfl) (by kernel_rfl) ?_); (repeat (go_big_quiet_step ((first | (go_at_call 18; with_reducible exact Ret.grow _ (HZ1.out _)) | (go_at_call 19; with_reducible exact Ret.grow _ (HZ2.out _)) | (go_at_call 142; with_reducible exact Ret.same _ (s_In _ _ _ _)) | (go_at_call 186; with_reducible exact Ret.same _ (i_In _ _ _ _)) | (go_at_call 222; with_reducible exact Ret.same _ (s_Rate _ _)) | (go_at_call 165; with_reducible exact Ret.same _ (i_Rate _ _)) | (go_at_call 262; with_reducible exact Ret.same _ (i_Years _ _)) | (go_at_call 227; with_reducible exact Ret.same _ (s_Amount6 _ _)) | (go_at_call 236; with_reducible exact Ret.same _ (s_Sum7 _ _)))))); refine wpQuiet_nil ?_; intro w' hw'; obtain ⟨x, rfl⟩ := hw'))
    go_ret
    exact ⟨rfl, (by repeat' (first | (with_reducible exact Up.refl _) | (with_reducible assumption) | (with_reducible refine Up.alloc ?_ _) | (with_reducible refine Up.drew ?_) | (with_reducible refine Up.grow ?_ _) | (with_reducible refine Up.setCell ?_ (by (try simp); (try omega)) _)))⟩
  have HZ2 : ∀ w, Calls Try.prog 19 #[.slice A' n c', .int .i64 (1048576 - T.n)] w (Ret w (.int .i64 (1048576 - T.n - n))) := fun w => by have h := l_SzH A' n c' (by omega) (1048576 - T.n) (by omega) (by omega) w; rwa [if_neg (by omega)] at h
  replace HZ2 := Lib.hid HZ2
  have hb2 : n ≤ 1048576 := by omega
  have hNb : N ≤ 1048576 := by omega
  have hv : BasAt w T r (.agg #[.int .i64 T.first, .slice A T.n c, .int .i64 r]) := ⟨A, c, rfl, hn, hc, hb, hI⟩
  replace HS := Lib.hid (HS.out hb2 hm)
  replace HI := Lib.hid (HI.out hb2 hm)
  have hds : ((List.range m).map d).length = m := by simp
  have HDS := Lib.hid hds
  clear hI hds
  go_enter Try.func5, Try.ntmps5
  go_wp2_with fail
  refine (HZ1.out _).mono ?_; rintro e w1 ⟨rfl, hs1⟩
  have hA : Blk w1 w.heap.size 26 _ := (Blk.new _ _ _).up hs1
  have hup : Up w w1 := (Up.alloc (Up.refl w) _).trans hs1
  have a0 := hA.cell 0; have a1 := hA.cell 1; have a2 := hA.cell 2; have iA := hA.inw
  clear hs1
  go_wp2_with fail
  refine (HZ2.out _).mono ?_; rintro e w2 ⟨rfl, hs2⟩
  have hA := hA.up hs2; have hup := hup.trans hs2
  have a0 := hA.cell 0; have a1 := hA.cell 1; have a2 := hA.cell 2; have iA := hA.inw
  clear hs2
  go_wp2_with fail
  refine (l_CopyB T r hb _ _ (hv.up hup)).mono ?_; rintro e w3 ⟨v1, rfl, hs3, hT1⟩
  have hA := hA.up hs3; have hup := hup.trans hs3
  have a0 := hA.cell 0; have a1 := hA.cell 1; have a2 := hA.cell 2; have iA := hA.inw
  clear hs3
  go_wp2_with fail
  refine (l_CopyHO A' n c' g hb2 _ (hH.up hup)).mono ?_; rintro e w4 ⟨v2, rfl, hs4, hH1⟩
  have hA := hA.up hs4; have hup := hup.trans hs4
  have hT1 := hT1.up hs4
  have a0 := hA.cell 0; have a1 := hA.cell 1; have a2 := hA.cell 2; have iA := hA.inw
  clear hs4
  go_wp2_with fail
  refine (l_Copy A'' m c'' d hm _ (hD.up hup)).mono ?_; rintro e w5 ⟨v3, rfl, hs5, hD1⟩
  have hA := hA.up hs5; have hup := hup.trans hs5
  have hT1 := hT1.up hs5; have hH1 := hH1.up hs5
  have a0 := hA.cell 0; have a1 := hA.cell 1; have a2 := hA.cell 2; have iA := hA.inw
  clear hs5
  go_wp2_with fail
  refine (HS.out _ _ _ _ hT1.bas hH1.hat (rd_D hD1.rd)).mono ?_; rintro e w6 ⟨vs, rfl, hs6, hS⟩
  have hA := hA.up hs6; have hup := hup.trans hs6
  have lS := hS.lt
  have a0 := hA.cell 0; have a1 := hA.cell 1; have a2 := hA.cell 2; have iA := hA.inw
  have zA : w.heap.size < w6.heap.size := iA
  clear hs6 hT1 hH1 hD1
  go_wp2_with fail
  refine (l_CopyB T r hb _ _ (hv.up hup)).mono ?_; rintro e w7 ⟨v4, rfl, hs7, hX2⟩
  have hX := hX2
  obtain ⟨_, A2, c2, rfl, hO2⟩ := hX
  have lX : ∀ k, (Value.slice A2 T.n c2).ownBlock = some k → w6.heap.size ≤ k ∧ k < w7.heap.size := World.ownsRow.lt hO2
  clear hO2
  have hA := hA.up hs7; have hup := hup.trans hs7; have hS := hS.up hs7
  have z7 := hs7.size
  have a0 := hA.cell 0; have a1 := hA.cell 1; have a2 := hA.cell 2; have iA := hA.inw
  clear hs7
  go_wp2_with fail
  refine (l_CopyHO A' n c' g hb2 _ (hH.up (hup.alloc _))).mono ?_; rintro e w8 ⟨v5, rfl, hs8, hY⟩
  have hX : Blk w8 w7.heap.size 33 _ := (Blk.new _ _ _).up hs8
  have lY := hY.lt
  have z8 := hs8.size
  simp only [World.size_alloc] at lY z8
  have hA := (hA.alloc _).up hs8; have hup := (hup.alloc _).trans hs8; have hS := (hS.up (Up.alloc (Up.refl _) _)).up hs8
  have hX2 := (hX2.up (Up.alloc (Up.refl _) _)).up hs8
  clear hs8
  have a0 := hA.cell 0; have a1 := hA.cell 1; have a2 := hA.cell 2; have iA := hA.inw
  have x0 := hX.cell 0; have x1 := hX.cell 1; have x2 := hX.cell 2; have iX := hX.inw
  go_wp2_with fail
  refine (l_Copy A'' m c'' d hm _ (hD.up hup)).mono ?_; rintro e w9 ⟨v6, rfl, hs9, hZ⟩
  have hA := hA.up hs9; have hup := hup.trans hs9; have hS := hS.up hs9; have hX := hX.up hs9; have hX2 := hX2.up hs9; have hY := hY.up hs9
  have lZ : ∀ k, v6.ownBlock = some k → w8.heap.size ≤ k ∧ k < w9.heap.size := World.ownsRow.lt hZ
  have z9 := hs9.size
  have a0 := hA.cell 0; have a1 := hA.cell 1; have a2 := hA.cell 2; have iA := hA.inw
  have x0 := hX.cell 0; have x1 := hX.cell 1; have x2 := hX.cell 2; have iX := hX.inw
  clear hs9
  go_wp2_with fail
  refine (HI.out _ _ _ _ hX2.bas hY.hat (rd_D hZ.rd)).mono ?_; rintro e w10 ⟨vg, rfl, hs10, hG⟩
  have hA := hA.up hs10; have hup := hup.trans hs10; have hS := hS.up hs10; have hX := hX.up hs10; have hX2 := hX2.up hs10; have hY := hY.up hs10; have hZ := hZ.up hs10
  have lG := hG.lt
  have z10 := hs10.size
  have a0 := hA.cell 0; have a1 := hA.cell 1; have a2 := hA.cell 2; have iA := hA.inw
  have x0 := hX.cell 0; have x1 := hX.cell 1; have x2 := hX.cell 2; have iX := hX.inw
  clear hs10
  go_wp2_with fail
  refine (l_EqH vg vs N G hNb _ hG.hat hS.hat).mono ?_; rintro e w11 ⟨rfl, hs11⟩
  have hA := hA.up hs11; have hup := hup.trans hs11; have hS := hS.up hs11; have hX := hX.up hs11; have hX2 := hX2.up hs11; have hY := hY.up hs11; have hZ := hZ.up hs11; have hG := hG.up hs11
  have a0 := hA.cell 0; have a1 := hA.cell 1; have a2 := hA.cell 2; have iA := hA.inw
  have x0 := hX.cell 0; have x1 := hX.cell 1; have x2 := hX.cell 2; have iX := hX.inw
  clear hs11
  go_wp2_with fail
  go_region_held3 (fun w' => w'.cell? ⟨w7.heap.size, 0, none⟩ = some (.int .i64 T.first) ∧ w'.cell? ⟨w7.heap.size, 1, none⟩ = some (.slice A2 T.n c2) ∧ w'.cell? ⟨w7.heap.size, 2, none⟩ = some (.int .i64 r) ∧ w'.cell? ⟨w.heap.size, 0, none⟩ = some (.int .i64 T.first) ∧ w'.cell? ⟨w.heap.size, 1, none⟩ = some (.slice A T.n c) ∧ w'.cell? ⟨w.heap.size, 2, none⟩ = some (.int .i64 r)) ((repeat' apply And.intro) <;> go_simp)
    (first
      | (go_at_call 21; ((with_reducible refine (l_CopyB T r hb _ _ (hv.up (hup.trans (by repeat' (first | (with_reducible exact Up.refl _) | (with_reducible assumption) | (with_reducible refine Up.alloc ?_ _) | (with_reducible refine Up.drew ?_) | (with_reducible refine Up.grow ?_ _) | (with_reducible refine Up.setCell ?_ (by (try simp); (try omega)) _)))))).mono ?_); rintro e w12 ⟨v12, rfl, hs12, hT3⟩; have hs12 := (Up.drew (Up.refl w11)).trans hs12; have hA := hA.up hs12; have hup := hup.trans hs12; have hS := hS.up hs12; have hX := hX.up hs12; have hX2 := hX2.up hs12; have hY := hY.up hs12; have hZ := hZ.up hs12; have hG := hG.up hs12; have a0 := hA.cell 0; have a1 := hA.cell 1; have a2 := hA.cell 2; have iA := hA.inw; have x0 := hX.cell 0; have x1 := hX.cell 1; have x2 := hX.cell 2; have iX := hX.inw))
      | (go_at_call 24; ((with_reducible refine (l_EqB T r _ _ _ hX2.bas hT3.bas).mono ?_); rintro e w13 ⟨rfl, hs13⟩; have hA := hA.up hs13; have hup := hup.trans hs13; have hS := hS.up hs13; have hX := hX.up hs13; have hX2 := hX2.up hs13; have hY := hY.up hs13; have hZ := hZ.up hs13; have hG := hG.up hs13; have a0 := hA.cell 0; have a1 := hA.cell 1; have a2 := hA.cell 2; have iA := hA.inw; have x0 := hX.cell 0; have x1 := hX.cell 1; have x2 := hX.cell 2; have iX := hX.inw)))
  clear hs12 hs13 hT3
  have iA := hA.inw; have iX := hX.inw
  go_wp2_with fail
  refine (l_CopyHO A' n c' g hb2 _ (hH.up hup)).mono ?_; rintro e w14 ⟨v14, rfl, hs14, hY3⟩
  have hA := hA.up hs14; have hup := hup.trans hs14; have hS := hS.up hs14; have hX := hX.up hs14; have hX2 := hX2.up hs14; have hY := hY.up hs14; have hZ := hZ.up hs14; have hG := hG.up hs14
  have a0 := hA.cell 0; have a1 := hA.cell 1; have a2 := hA.cell 2; have iA := hA.inw
  have x0 := hX.cell 0; have x1 := hX.cell 1; have x2 := hX.cell 2; have iX := hX.inw
  clear hs14
  go_wp2_with fail
  refine (l_EqH v5 v14 n g hb2 _ hY.hat hY3.hat).mono ?_; rintro e w15 ⟨rfl, hs15⟩
  have hA := hA.up hs15; have hup := hup.trans hs15; have hS := hS.up hs15; have hX := hX.up hs15; have hX2 := hX2.up hs15; have hY := hY.up hs15; have hZ := hZ.up hs15; have hG := hG.up hs15
  have a0 := hA.cell 0; have a1 := hA.cell 1; have a2 := hA.cell 2; have iA := hA.inw
  have x0 := hX.cell 0; have x1 := hX.cell 1; have x2 := hX.cell 2; have iX := hX.inw
  clear hs15 hY3
  go_wp2_with fail
  refine (l_Copy A'' m c'' d hm _ (hD.up hup)).mono ?_; rintro e w16 ⟨v16, rfl, hs16, hZ3⟩
  have hA := hA.up hs16; have hup := hup.trans hs16; have hS := hS.up hs16; have hX := hX.up hs16; have hX2 := hX2.up hs16; have hY := hY.up hs16; have hZ := hZ.up hs16; have hG := hG.up hs16
  have a0 := hA.cell 0; have a1 := hA.cell 1; have a2 := hA.cell 2; have iA := hA.inw
  have x0 := hX.cell 0; have x1 := hX.cell 1; have x2 := hX.cell 2; have iX := hX.inw
  clear hs16
  go_wp2_with fail
  refine (l_Eq v6 v16 _ (by rw [HDS.out]; exact hm) _ hZ.rd hZ3.rd).mono ?_; rintro e w17 ⟨rfl, hs17⟩
  have hA := hA.up hs17; have hup := hup.trans hs17; have hS := hS.up hs17; have hX := hX.up hs17; have hX2 := hX2.up hs17; have hY := hY.up hs17; have hZ := hZ.up hs17; have hG := hG.up hs17
  have a0 := hA.cell 0; have a1 := hA.cell 1; have a2 := hA.cell 2; have iA := hA.inw
  have x0 := hX.cell 0; have x1 := hX.cell 1; have x2 := hX.cell 2; have iX := hX.inw
  clear hs17 hZ3
  go_wp2_with fail
  refine (l_MarkBH T r _ _ (by omega) (by omega) w6 _ hX2).mono ?_; rintro e w18 ⟨rfl, A9, c9, f9, q9, h9, hg18⟩
  injection h9 with h9; simp at h9; obtain ⟨rfl, ⟨rfl, rfl⟩, rfl⟩ := h9
  have hA : Blk w18 w.heap.size 26 _ := blk_far hA hg18 (fun k hk => by have := lX k hk; omega)
  have hup := hup.far hg18 (fun k hk => by have := lX k hk; omega)
  have hS := hS.far hg18 (fun k hk e => by have := lX k hk; have := lS k e; omega)
  have hY := hY.far hg18 (fun k hk e => by have := lX k hk; have := lY k e; omega)
  have hZ := hZ.far hg18 (fun k hk e => by have := lX k hk; have := lZ k e; omega)
  have hG := hG.far hg18 (fun k hk e => by have := lX k hk; have := lG k e; omega)
  clear hX hX2 x0 x1 x2 iX hg18
  have a0 := hA.cell 0; have a1 := hA.cell 1; have a2 := hA.cell 2; have iA := hA.inw
  go_wp2_with fail
  refine (l_MarkH v5 n g hb2 _ (by omega) (by omega) _ _ hY).mono ?_; rintro e w19 ⟨rfl, hYm, hg19⟩
  have hA : Blk w19 w.heap.size 26 _ := blk_far hA hg19 (fun k hk => by have := lY k hk; omega)
  have hup := hup.far hg19 (fun k hk => by have := lY k hk; omega)
  have hS := hS.far hg19 (fun k hk e => by have := lY k hk; have := lS k e; omega)
  have hZ := hZ.far hg19 (fun k hk e => by have := lY k hk; have := lZ k e; omega)
  have hG := hG.far hg19 (fun k hk e => by have := lY k hk; have := lG k e; omega)
  clear hY hYm hg19
  have a0 := hA.cell 0; have a1 := hA.cell 1; have a2 := hA.cell 2; have iA := hA.inw
  go_wp2_with fail
  have hmk := l_MarkW v6 ((List.range m).map d) (by rw [HDS.out]; exact hm) (1 + T.n + 7 * n) (by omega) (by omega) _ _ hZ
  rw [HDS.out] at hmk
  refine hmk.mono ?_; rintro e w20 ⟨rfl, hZm, hg20⟩
  have hA : Blk w20 w.heap.size 26 _ := blk_far hA hg20 (fun k hk => by have := lZ k hk; omega)
  have hup := hup.far hg20 (fun k hk => by have := lZ k hk; omega)
  have hS := hS.far hg20 (fun k hk e => by have := lZ k hk; have := lS k e; omega)
  have hG := hG.far hg20 (fun k hk e => by have := lZ k hk; have := lG k e; omega)
  clear hZ hZm hg20 hmk
  have a0 := hA.cell 0; have a1 := hA.cell 1; have a2 := hA.cell 2; have iA := hA.inw
  go_wp2_with fail
  refine (l_EqH vg vs N G hNb _ hG.hat hS.hat).mono ?_; rintro e w21 ⟨rfl, hs21⟩
  have hA := hA.up hs21; have hup := hup.trans hs21; have hS := hS.up hs21; have hG := hG.up hs21
  have a0 := hA.cell 0; have a1 := hA.cell 1; have a2 := hA.cell 2; have iA := hA.inw
  clear hs21
  go_wp2_with fail
  refine (l_MarkH vg N G hNb 1 (by omega) (by omega) _ _ hG).mono ?_; rintro e w22 ⟨rfl, hM, hg22⟩
  have hA : Blk w22 w.heap.size 26 _ := blk_far hA hg22 (fun k hk => by have := lG k hk; omega)
  have hup := hup.far hg22 (fun k hk => by have := lG k hk; omega)
  have hS := hS.far hg22 (fun k hk e => by have := lG k hk; have := lS k e; omega)
  clear hG hg22
  have a0 := hA.cell 0; have a1 := hA.cell 1; have a2 := hA.cell 2; have iA := hA.inw
  go_wp2_with fail
  refine (l_HeldH vg 1 N hNb (by omega) (by omega) _ hM.hat).mono ?_; rintro e w23 ⟨rfl, hs23⟩
  have hA := hA.up hs23; have hup := hup.trans hs23; have hS := hS.up hs23; have hM := hM.up hs23
  have a0 := hA.cell 0; have a1 := hA.cell 1; have a2 := hA.cell 2; have iA := hA.inw
  clear hs23
  go_wp2_with fail
  refine (l_CopyB T r hb _ _ (hv.up hup)).mono ?_; rintro e w24 ⟨v24, rfl, hs24, hT7⟩
  have hA := hA.up hs24; have hup := hup.trans hs24; have hS := hS.up hs24; have hM := hM.up hs24
  have a0 := hA.cell 0; have a1 := hA.cell 1; have a2 := hA.cell 2; have iA := hA.inw
  clear hs24
  go_wp2_with fail
  refine (l_CopyHO A' n c' g hb2 _ (hH.up hup)).mono ?_; rintro e w25 ⟨v25, rfl, hs25, hH7⟩
  have hA := hA.up hs25; have hup := hup.trans hs25; have hS := hS.up hs25; have hM := hM.up hs25
  have hT7 := hT7.up hs25
  have a0 := hA.cell 0; have a1 := hA.cell 1; have a2 := hA.cell 2; have iA := hA.inw
  clear hs25
  go_wp2_with fail
  refine (l_Copy A'' m c'' d hm _ (hD.up hup)).mono ?_; rintro e w26 ⟨v26, rfl, hs26, hD7⟩
  have hA := hA.up hs26; have hup := hup.trans hs26; have hS := hS.up hs26; have hM := hM.up hs26
  have hT7 := hT7.up hs26; have hH7 := hH7.up hs26
  have a0 := hA.cell 0; have a1 := hA.cell 1; have a2 := hA.cell 2; have iA := hA.inw
  clear hs26
  go_wp2_with fail
  refine (HI.out _ _ _ _ hT7.bas hH7.hat (rd_D hD7.rd)).mono ?_; rintro e w27 ⟨vh, rfl, hs27, hE⟩
  have hA := hA.up hs27; have hup := hup.trans hs27; have hS := hS.up hs27; have hM := hM.up hs27
  have a0 := hA.cell 0; have a1 := hA.cell 1; have a2 := hA.cell 2; have iA := hA.inw
  clear hs27
  go_wp2_with fail
  refine (l_EqH vh vs N G hNb _ hE.hat hS.hat).mono ?_; rintro e w28 ⟨rfl, hs28⟩
  have hA := hA.up hs28; have hup := hup.trans hs28; have hS := hS.up hs28; have hM := hM.up hs28
  go_wp2_with fail
  refine (l_HeldH vg 1 N hNb (by omega) (by omega) _ hM.hat).mono ?_; rintro e w29 ⟨rfl, hs29⟩
  have hup := hup.trans hs29
  go_wp2_with fail
  go_ret
  exact ⟨rfl, hup⟩
end Go.Proofs.Ytdeoampkbbbleaa
