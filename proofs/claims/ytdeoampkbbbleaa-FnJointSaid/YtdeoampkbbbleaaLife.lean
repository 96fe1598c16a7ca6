/- Contracts of LivesAt, SurvivalOf, MiddleAge, both sides. Condition: the slice reads as the table's numbers. -/
import Derived.Test.YtdeoampkbbbleaaSW
import Derived.Test.YtdeoampkbbbleaaIW
namespace Go.Proofs.Ytdeoampkbbbleaa
open Go.RowKit Pu
set_option linter.unusedVariables false
set_option linter.unusedSimpArgs false

theorem least_of {p : Nat → Prop} (n : Nat) (h : p n) : ∃ m, m ≤ n ∧ p m ∧ ∀ i, i < m → ¬ p i := by
  induction n using Nat.strongRecOn with
  | ind n ih =>
    by_cases hx : ∃ i, i < n ∧ p i
    · obtain ⟨i, hi, hp⟩ := hx
      obtain ⟨m, hm, h1, h2⟩ := ih i hi hp
      exact ⟨m, by omega, h1, h2⟩
    · exact ⟨n, Nat.le_refl n, h, fun i hi hp => hx ⟨i, hi, hp⟩⟩
/-- M years from index k on, at most half of the lives are left for the first time. -/
def IsMid (T : Tab) (k M : Nat) : Prop := 2 * T.lv (k + M) ≤ T.lv k ∧ ∀ i, i < M → T.lv k < 2 * T.lv (k + i)
theorem mid_ex {T : Tab} (h : T.Ok) {k : Nat} (hk : k + 1 < T.n) : ∃ M, IsMid T k M ∧ k + M < T.n := by
  have h0 : 2 * T.lv (k + (T.n - 1 - k)) ≤ T.lv k := by
    rw [h.end_ (by omega)]; have := (h.lv_bd k).1; omega
  obtain ⟨m, hm, h1, h2⟩ := least_of (p := fun m => 2 * T.lv (k + m) ≤ T.lv k) _ h0
  exact ⟨m, ⟨h1, fun i hi => by have := h2 i hi; omega⟩, by omega⟩
open Classical in
/-- The years to the middle age. -/
noncomputable def Tab.midN (T : Tab) (k : Nat) : Nat := if h : ∃ M, IsMid T k M ∧ k + M < T.n then Classical.choose h else 0
theorem midN_spec {T : Tab} (h : T.Ok) {k : Nat} (hk : k + 1 < T.n) : IsMid T k (Tab.midN T k) ∧ k + Tab.midN T k < T.n := by
  have he := mid_ex h hk
  unfold Tab.midN
  rw [dif_pos he]
  exact Classical.choose_spec he

theorem i_LivesAt (T : Tab) (age : Int) (v : Value) (w : World) (hv : TabAt w T v) : Calls Try.prog 58 #[v, .int .i64 age] w (RetQ w (aC T age) (T.lv (ix T age))) := by
  have HC := i_CodeA T age
  have hv' := hv
  obtain ⟨A, c, rfl, hc, hm, _, hI⟩ := hv
  by_cases hz : aC T age = 0
  case neg =>
    rw [RetQ_bad hz]
    replace HC := Lib.hid HC
    (have hz1 : ((aC T age) != 0) = true := (by simpa using hz)); (have hz2 : ((aC T age) == 0) = false := (by simpa using hz))
    clear hz
    generalize aC T age = K at *
    go_enter Try.func58, Try.ntmps58
    go_wp2_with (first | (go_at_call 181; (with_reducible refine (HC.out _ _ (hv'.up (by repeat' (first | (with_reducible exact Up.refl _) | (with_reducible assumption) | (with_reducible refine Up.alloc ?_ _) | (with_reducible refine Up.drew ?_) | (with_reducible refine Up.grow ?_ _) | (with_reducible refine Up.setCell ?_ (by (try simp); (try omega)) _))))).mono ?_); rintro e w' ⟨rfl, hb⟩; first | (obtain ⟨x, rfl⟩ := Grow.on x hb) | (obtain ⟨x, rfl⟩ := Grow.mk' hb)) | (go_at_call 142; (with_reducible refine (s_In _ _ _ _).mono ?_); rintro e w' ⟨rfl, rfl⟩) | (go_at_call 186; (with_reducible refine (i_In _ _ _ _).mono ?_); rintro e w' ⟨rfl, rfl⟩) | (go_at_call 222; (with_reducible refine (s_Rate _ _).mono ?_); rintro e w' ⟨rfl, rfl⟩) | (go_at_call 165; (with_reducible refine (i_Rate _ _).mono ?_); rintro e w' ⟨rfl, rfl⟩) | (go_at_call 262; (with_reducible refine (i_Years _ _).mono ?_); rintro e w' ⟨rfl, rfl⟩) | (go_at_call 227; (with_reducible refine (s_Amount6 _ _).mono ?_); rintro e w' ⟨rfl, rfl⟩) | (go_at_call 236; (with_reducible refine (s_Sum7 _ _).mono ?_); rintro e w' ⟨rfl, rfl⟩) | ((first | with_reducible refine wp_region_in x (by kernel_rfl) (by kernel_rfl) ?_ | with_reducible refine wp_region_here (by kernel_rfl) (by kernel_rfl) ?_); (repeat (go_big_quiet_step ((first | (go_at_call 181; with_reducible exact Ret.grow _ (HC.out _ _ (hv'.up (by repeat' (first | (with_reducible exact Up.refl _) | (with_reducible assumption) | (with_reducible refine Up.alloc ?_ _) | (with_reducible refine Up.drew ?_) | (with_reducible refine Up.grow ?_ _) | (with_reducible refine Up.setCell ?_ (by (try simp); (try omega)) _)))))) | (go_at_call 142; with_reducible exact Ret.same _ (s_In _ _ _ _)) | (go_at_call 186; with_reducible exact Ret.same _ (i_In _ _ _ _)) | (go_at_call 222; with_reducible exact Ret.same _ (s_Rate _ _)) | (go_at_call 165; with_reducible exact Ret.same _ (i_Rate _ _)) | (go_at_call 262; with_reducible exact Ret.same _ (i_Years _ _)) | (go_at_call 227; with_reducible exact Ret.same _ (s_Amount6 _ _)) | (go_at_call 236; with_reducible exact Ret.same _ (s_Sum7 _ _)))))); refine wpQuiet_nil ?_; intro w' hw'; obtain ⟨x, rfl⟩ := hw'))
    go_ret2
    exact ⟨rfl, (by repeat' (first | (with_reducible exact Up.refl _) | (with_reducible assumption) | (with_reducible refine Up.alloc ?_ _) | (with_reducible refine Up.drew ?_) | (with_reducible refine Up.grow ?_ _) | (with_reducible refine Up.setCell ?_ (by (try simp); (try omega)) _)))⟩
  obtain ⟨hT, k, rfl, hk⟩ := aC_ok hz
  rw [hz] at HC ⊢
  rw [RetQ_ok, ix_k]
  have HL := Lib.hid (i_LivesA hT k (by omega))
  replace HC := Lib.hid HC
  generalize T.lv k = LV at *
  clear hz
  go_enter Try.func58, Try.ntmps58
  go_wp2_with (first | (go_at_call 181; (with_reducible refine (HC.out _ _ (hv'.up (by repeat' (first | (with_reducible exact Up.refl _) | (with_reducible assumption) | (with_reducible refine Up.alloc ?_ _) | (with_reducible refine Up.drew ?_) | (with_reducible refine Up.grow ?_ _) | (with_reducible refine Up.setCell ?_ (by (try simp); (try omega)) _))))).mono ?_); rintro e w' ⟨rfl, hb⟩; first | (obtain ⟨x, rfl⟩ := Grow.on x hb) | (obtain ⟨x, rfl⟩ := Grow.mk' hb)) | (go_at_call 161; (with_reducible refine (HL.out _ _ (hv'.up (by repeat' (first | (with_reducible exact Up.refl _) | (with_reducible assumption) | (with_reducible refine Up.alloc ?_ _) | (with_reducible refine Up.drew ?_) | (with_reducible refine Up.grow ?_ _) | (with_reducible refine Up.setCell ?_ (by (try simp); (try omega)) _))))).mono ?_); rintro e w' ⟨rfl, hb⟩; first | (obtain ⟨x, rfl⟩ := Grow.on x hb) | (obtain ⟨x, rfl⟩ := Grow.mk' hb)) | (go_at_call 142; (with_reducible refine (s_In _ _ _ _).mono ?_); rintro e w' ⟨rfl, rfl⟩) | (go_at_call 186; (with_reducible refine (i_In _ _ _ _).mono ?_); rintro e w' ⟨rfl, rfl⟩) | (go_at_call 222; (with_reducible refine (s_Rate _ _).mono ?_); rintro e w' ⟨rfl, rfl⟩) | (go_at_call 165; (with_reducible refine (i_Rate _ _).mono ?_); rintro e w' ⟨rfl, rfl⟩) | (go_at_call 262; (with_reducible refine (i_Years _ _).mono ?_); rintro e w' ⟨rfl, rfl⟩) | (go_at_call 227; (with_reducible refine (s_Amount6 _ _).mono ?_); rintro e w' ⟨rfl, rfl⟩) | (go_at_call 236; (with_reducible refine (s_Sum7 _ _).mono ?_); rintro e w' ⟨rfl, rfl⟩) | ((first | with_reducible refine wp_region_in x (by kernel_rfl) (by kernel_rfl) ?_ | with_reducible refine wp_region_here (by kernel_rfl) (by kernel_rfl) ?_); (repeat (go_big_quiet_step ((first | (go_at_call 181; with_reducible exact Ret.grow _ (HC.out _ _ (hv'.up (by repeat' (first | (with_reducible exact Up.refl _) | (with_reducible assumption) | (with_reducible refine Up.alloc ?_ _) | (with_reducible refine Up.drew ?_) | (with_reducible refine Up.grow ?_ _) | (with_reducible refine Up.setCell ?_ (by (try simp); (try omega)) _)))))) | (go_at_call 161; with_reducible exact Ret.grow _ (HL.out _ _ (hv'.up (by repeat' (first | (with_reducible exact Up.refl _) | (with_reducible assumption) | (with_reducible refine Up.alloc ?_ _) | (with_reducible refine Up.drew ?_) | (with_reducible refine Up.grow ?_ _) | (with_reducible refine Up.setCell ?_ (by (try simp); (try omega)) _)))))) | (go_at_call 142; with_reducible exact Ret.same _ (s_In _ _ _ _)) | (go_at_call 186; with_reducible exact Ret.same _ (i_In _ _ _ _)) | (go_at_call 222; with_reducible exact Ret.same _ (s_Rate _ _)) | (go_at_call 165; with_reducible exact Ret.same _ (i_Rate _ _)) | (go_at_call 262; with_reducible exact Ret.same _ (i_Years _ _)) | (go_at_call 227; with_reducible exact Ret.same _ (s_Amount6 _ _)) | (go_at_call 236; with_reducible exact Ret.same _ (s_Sum7 _ _)))))); refine wpQuiet_nil ?_; intro w' hw'; obtain ⟨x, rfl⟩ := hw'))
  go_ret2
  exact ⟨rfl, (by repeat' (first | (with_reducible exact Up.refl _) | (with_reducible assumption) | (with_reducible refine Up.alloc ?_ _) | (with_reducible refine Up.drew ?_) | (with_reducible refine Up.grow ?_ _) | (with_reducible refine Up.setCell ?_ (by (try simp); (try omega)) _)))⟩
/-- The code of a share of survivors. -/
noncomputable def suC (T : Tab) (age n : Int) : Int := if aC T age = 0 then (if inR n 0 150 = true then (if T.lv (ix T age) = 0 then 5 else 0) else 2) else aC T age
theorem suC_ok {T : Tab} {age n : Int} (h : suC T age n = 0) : T.Ok ∧ ∃ k n' : Nat, age = T.first + k ∧ n = n' ∧ T.first + k ≤ 150 ∧ n' ≤ 150 ∧ k + 1 < T.n := by
  unfold suC at h
  by_cases hA : aC T age = 0
  · rw [if_pos hA] at h
    by_cases hn : inR n 0 150 = true
    · rw [if_pos hn] at h
      have b := inR_true.1 hn
      obtain ⟨hT, k, rfl, hk⟩ := aC_ok hA
      refine ⟨hT, k, n.toNat, rfl, by omega, hk, by omega, ?_⟩
      rw [ix_k] at h
      rcases Nat.lt_or_ge (k + 1) T.n with g | g
      · exact g
      · rw [if_pos (hT.end_ (by omega))] at h; cases h
    · rw [if_neg hn] at h; cases h
  · rw [if_neg hA] at h; exact absurd h hA
/-- The share, its numerator and its denominator. -/
def suA (T : Tab) (k n : Nat) : Nat := fA (T.lv (k + n)).toNat (T.lv k).toNat
def suB (T : Tab) (k n : Nat) : Nat := fB (T.lv (k + n)).toNat (T.lv k).toNat
set_option maxRecDepth 100000 in
set_option maxHeartbeats 2000000 in
theorem s_Survival (T : Tab) (age n : Int) (v : Value) (w : World) (hv : TabAt w T v) : Calls Try.prog 61 #[v, .int .i64 age, .int .i64 n] w (RetQ3 w (suC T age n) (suA T (ix T age) n.toNat : Nat) (suB T (ix T age) n.toNat : Nat)) := by
  have HC := s_CodeA T age
  have hv' := hv
  obtain ⟨A, c, rfl, hc, hm, _, hI⟩ := hv
  by_cases hz : aC T age = 0
  case neg =>
    rw [show suC T age n = aC T age from by unfold suC; rw [if_neg hz]]
    rw [RetQ3_bad hz]
    replace HC := Lib.hid HC
    (have hz1 : ((aC T age) != 0) = true := (by simpa using hz)); (have hz2 : ((aC T age) == 0) = false := (by simpa using hz))
    clear hz
    generalize aC T age = K at *
    go_enter Try.func61, Try.ntmps61
    go_wp2_with (first | (go_at_call 178; (with_reducible refine (HC.out _ _ (hv'.up (by repeat' (first | (with_reducible exact Up.refl _) | (with_reducible assumption) | (with_reducible refine Up.alloc ?_ _) | (with_reducible refine Up.drew ?_) | (with_reducible refine Up.grow ?_ _) | (with_reducible refine Up.setCell ?_ (by (try simp); (try omega)) _))))).mono ?_); rintro e w' ⟨rfl, hb⟩; first | (obtain ⟨x, rfl⟩ := Grow.on x hb) | (obtain ⟨x, rfl⟩ := Grow.mk' hb)) | (go_at_call 142; (with_reducible refine (s_In _ _ _ _).mono ?_); rintro e w' ⟨rfl, rfl⟩) | (go_at_call 186; (with_reducible refine (i_In _ _ _ _).mono ?_); rintro e w' ⟨rfl, rfl⟩) | (go_at_call 222; (with_reducible refine (s_Rate _ _).mono ?_); rintro e w' ⟨rfl, rfl⟩) | (go_at_call 165; (with_reducible refine (i_Rate _ _).mono ?_); rintro e w' ⟨rfl, rfl⟩) | (go_at_call 262; (with_reducible refine (i_Years _ _).mono ?_); rintro e w' ⟨rfl, rfl⟩) | (go_at_call 227; (with_reducible refine (s_Amount6 _ _).mono ?_); rintro e w' ⟨rfl, rfl⟩) | (go_at_call 236; (with_reducible refine (s_Sum7 _ _).mono ?_); rintro e w' ⟨rfl, rfl⟩) | ((first | with_reducible refine wp_region_in x (by kernel_rfl) (by kernel_rfl) ?_ | with_reducible refine wp_region_here (by kernel_rfl) (by kernel_rfl) ?_); (repeat (go_big_quiet_step ((first | (go_at_call 178; with_reducible exact Ret.grow _ (HC.out _ _ (hv'.up (by repeat' (first | (with_reducible exact Up.refl _) | (with_reducible assumption) | (with_reducible refine Up.alloc ?_ _) | (with_reducible refine Up.drew ?_) | (with_reducible refine Up.grow ?_ _) | (with_reducible refine Up.setCell ?_ (by (try simp); (try omega)) _)))))) | (go_at_call 142; with_reducible exact Ret.same _ (s_In _ _ _ _)) | (go_at_call 186; with_reducible exact Ret.same _ (i_In _ _ _ _)) | (go_at_call 222; with_reducible exact Ret.same _ (s_Rate _ _)) | (go_at_call 165; with_reducible exact Ret.same _ (i_Rate _ _)) | (go_at_call 262; with_reducible exact Ret.same _ (i_Years _ _)) | (go_at_call 227; with_reducible exact Ret.same _ (s_Amount6 _ _)) | (go_at_call 236; with_reducible exact Ret.same _ (s_Sum7 _ _)))))); refine wpQuiet_nil ?_; intro w' hw'; obtain ⟨x, rfl⟩ := hw'))
    go_ret3
    exact ⟨rfl, (by repeat' (first | (with_reducible exact Up.refl _) | (with_reducible assumption) | (with_reducible refine Up.alloc ?_ _) | (with_reducible refine Up.drew ?_) | (with_reducible refine Up.grow ?_ _) | (with_reducible refine Up.setCell ?_ (by (try simp); (try omega)) _)))⟩
  by_cases hn : inR n 0 150 = true
  case neg =>
    rw [show suC T age n = 2 from by unfold suC; rw [if_pos hz, if_neg hn]]
    rw [RetQ3_bad (by decide)]
    rw [hz] at HC
    replace HC := Lib.hid HC
    have hn := Bool.eq_false_iff.2 hn
    clear hz
    go_enter Try.func61, Try.ntmps61
    go_wp2_with (first | (go_at_call 178; (with_reducible refine (HC.out _ _ (hv'.up (by repeat' (first | (with_reducible exact Up.refl _) | (with_reducible assumption) | (with_reducible refine Up.alloc ?_ _) | (with_reducible refine Up.drew ?_) | (with_reducible refine Up.grow ?_ _) | (with_reducible refine Up.setCell ?_ (by (try simp); (try omega)) _))))).mono ?_); rintro e w' ⟨rfl, hb⟩; first | (obtain ⟨x, rfl⟩ := Grow.on x hb) | (obtain ⟨x, rfl⟩ := Grow.mk' hb)) | (go_at_call 142; (with_reducible refine (s_In _ _ _ _).mono ?_); rintro e w' ⟨rfl, rfl⟩) | (go_at_call 186; (with_reducible refine (i_In _ _ _ _).mono ?_); rintro e w' ⟨rfl, rfl⟩) | (go_at_call 222; (with_reducible refine (s_Rate _ _).mono ?_); rintro e w' ⟨rfl, rfl⟩) | (go_at_call 165; (with_reducible refine (i_Rate _ _).mono ?_); rintro e w' ⟨rfl, rfl⟩) | (go_at_call 262; (with_reducible refine (i_Years _ _).mono ?_); rintro e w' ⟨rfl, rfl⟩) | (go_at_call 227; (with_reducible refine (s_Amount6 _ _).mono ?_); rintro e w' ⟨rfl, rfl⟩) | (go_at_call 236; (with_reducible refine (s_Sum7 _ _).mono ?_); rintro e w' ⟨rfl, rfl⟩) | ((first | with_reducible refine wp_region_in x (by kernel_rfl) (by kernel_rfl) ?_ | with_reducible refine wp_region_here (by kernel_rfl) (by kernel_rfl) ?_); (repeat (go_big_quiet_step ((first | (go_at_call 178; with_reducible exact Ret.grow _ (HC.out _ _ (hv'.up (by repeat' (first | (with_reducible exact Up.refl _) | (with_reducible assumption) | (with_reducible refine Up.alloc ?_ _) | (with_reducible refine Up.drew ?_) | (with_reducible refine Up.grow ?_ _) | (with_reducible refine Up.setCell ?_ (by (try simp); (try omega)) _)))))) | (go_at_call 142; with_reducible exact Ret.same _ (s_In _ _ _ _)) | (go_at_call 186; with_reducible exact Ret.same _ (i_In _ _ _ _)) | (go_at_call 222; with_reducible exact Ret.same _ (s_Rate _ _)) | (go_at_call 165; with_reducible exact Ret.same _ (i_Rate _ _)) | (go_at_call 262; with_reducible exact Ret.same _ (i_Years _ _)) | (go_at_call 227; with_reducible exact Ret.same _ (s_Amount6 _ _)) | (go_at_call 236; with_reducible exact Ret.same _ (s_Sum7 _ _)))))); refine wpQuiet_nil ?_; intro w' hw'; obtain ⟨x, rfl⟩ := hw'))
    go_ret3
    exact ⟨rfl, (by repeat' (first | (with_reducible exact Up.refl _) | (with_reducible assumption) | (with_reducible refine Up.alloc ?_ _) | (with_reducible refine Up.drew ?_) | (with_reducible refine Up.grow ?_ _) | (with_reducible refine Up.setCell ?_ (by (try simp); (try omega)) _)))⟩
  obtain ⟨hT, k, rfl, hk⟩ := aC_ok hz
  have hnb := inR_true.1 hn
  have HL := s_LivesA hT k (by omega)
  by_cases hl : T.lv k = 0
  · rw [show suC T (T.first + k) n = 5 from by unfold suC; rw [if_pos hz, if_pos hn, ix_k, if_pos hl]]
    rw [RetQ3_bad (by decide)]
    rw [hz] at HC
    rw [hl] at HL
    replace HC := Lib.hid HC
    replace HL := Lib.hid HL
    clear hz hl
    go_enter Try.func61, Try.ntmps61
    go_wp2_with (first | (go_at_call 178; (with_reducible refine (HC.out _ _ (hv'.up (by repeat' (first | (with_reducible exact Up.refl _) | (with_reducible assumption) | (with_reducible refine Up.alloc ?_ _) | (with_reducible refine Up.drew ?_) | (with_reducible refine Up.grow ?_ _) | (with_reducible refine Up.setCell ?_ (by (try simp); (try omega)) _))))).mono ?_); rintro e w' ⟨rfl, hb⟩; first | (obtain ⟨x, rfl⟩ := Grow.on x hb) | (obtain ⟨x, rfl⟩ := Grow.mk' hb)) | (go_at_call 157; (with_reducible refine (HL.out _ _ (hv'.up (by repeat' (first | (with_reducible exact Up.refl _) | (with_reducible assumption) | (with_reducible refine Up.alloc ?_ _) | (with_reducible refine Up.drew ?_) | (with_reducible refine Up.grow ?_ _) | (with_reducible refine Up.setCell ?_ (by (try simp); (try omega)) _))))).mono ?_); rintro e w' ⟨rfl, hb⟩; first | (obtain ⟨x, rfl⟩ := Grow.on x hb) | (obtain ⟨x, rfl⟩ := Grow.mk' hb)) | (go_at_call 142; (with_reducible refine (s_In _ _ _ _).mono ?_); rintro e w' ⟨rfl, rfl⟩) | (go_at_call 186; (with_reducible refine (i_In _ _ _ _).mono ?_); rintro e w' ⟨rfl, rfl⟩) | (go_at_call 222; (with_reducible refine (s_Rate _ _).mono ?_); rintro e w' ⟨rfl, rfl⟩) | (go_at_call 165; (with_reducible refine (i_Rate _ _).mono ?_); rintro e w' ⟨rfl, rfl⟩) | (go_at_call 262; (with_reducible refine (i_Years _ _).mono ?_); rintro e w' ⟨rfl, rfl⟩) | (go_at_call 227; (with_reducible refine (s_Amount6 _ _).mono ?_); rintro e w' ⟨rfl, rfl⟩) | (go_at_call 236; (with_reducible refine (s_Sum7 _ _).mono ?_); rintro e w' ⟨rfl, rfl⟩) | ((first | with_reducible refine wp_region_in x (by kernel_rfl) (by kernel_rfl) ?_ | with_reducible refine wp_region_here (by kernel_rfl) (by kernel_rfl) ?_); (repeat (go_big_quiet_step ((first | (go_at_call 178; with_reducible exact Ret.grow _ (HC.out _ _ (hv'.up (by repeat' (first | (with_reducible exact Up.refl _) | (with_reducible assumption) | (with_reducible refine Up.alloc ?_ _) | (with_reducible refine Up.drew ?_) | (with_reducible refine Up.grow ?_ _) | (with_reducible refine Up.setCell ?_ (by (try simp); (try omega)) _)))))) | (go_at_call 157; with_reducible exact Ret.grow _ (HL.out _ _ (hv'.up (by repeat' (first | (with_reducible exact Up.refl _) | (with_reducible assumption) | (with_reducible refine Up.alloc ?_ _) | (with_reducible refine Up.drew ?_) | (with_reducible refine Up.grow ?_ _) | (with_reducible refine Up.setCell ?_ (by (try simp); (try omega)) _)))))) | (go_at_call 142; with_reducible exact Ret.same _ (s_In _ _ _ _)) | (go_at_call 186; with_reducible exact Ret.same _ (i_In _ _ _ _)) | (go_at_call 222; with_reducible exact Ret.same _ (s_Rate _ _)) | (go_at_call 165; with_reducible exact Ret.same _ (i_Rate _ _)) | (go_at_call 262; with_reducible exact Ret.same _ (i_Years _ _)) | (go_at_call 227; with_reducible exact Ret.same _ (s_Amount6 _ _)) | (go_at_call 236; with_reducible exact Ret.same _ (s_Sum7 _ _)))))); refine wpQuiet_nil ?_; intro w' hw'; obtain ⟨x, rfl⟩ := hw'))
    go_ret3
    exact ⟨rfl, (by repeat' (first | (with_reducible exact Up.refl _) | (with_reducible assumption) | (with_reducible refine Up.alloc ?_ _) | (with_reducible refine Up.drew ?_) | (with_reducible refine Up.grow ?_ _) | (with_reducible refine Up.setCell ?_ (by (try simp); (try omega)) _)))⟩
  · have hl1 : (T.lv k == 0) = false := by simpa using hl
    rw [show suC T (T.first + k) n = 0 from by unfold suC; rw [if_pos hz, if_pos hn, ix_k, if_neg hl]]
    rw [RetQ3_ok, ix_k]
    rw [hz] at HC
    replace HC := Lib.hid HC
    replace HL := Lib.hid HL
    obtain ⟨n, rfl⟩ : ∃ n' : Nat, n = n' := ⟨n.toNat, by omega⟩
    rw [Int.toNat_natCast]
    have HN : ∀ v w, TabAt w T v → Calls Try.prog 157 #[v, .int .i64 (T.first + k + n)] w (Ret w (.int .i64 (T.lv (k + n)))) := fun v w hv => by
      have h := s_LivesA hT (k + n) (by omega) v w hv
      rwa [show T.first + ((k + n : Nat) : Int) = T.first + k + n from by omega] at h
    replace HN := Lib.hid HN
    have b1 := hT.lv_bd k
    have b2 := hT.lv_bd (k + n)
    have HF : ∀ w, Calls Try.prog 180 #[.int .i64 (T.lv (k + n)), .int .i64 (T.lv k)] w (Ret w (.tuple #[.int .i64 (suA T k n : Nat), .int .i64 (suB T k n : Nat)])) := fun w => by
      have h := s_Frac (T.lv (k + n)).toNat (T.lv k).toNat (by omega) (by omega) (by omega) w
      rwa [show (((T.lv (k + n)).toNat : Nat) : Int) = T.lv (k + n) from by omega, show (((T.lv k).toNat : Nat) : Int) = T.lv k from by omega] at h
    replace HF := Lib.hid HF
    have q1 := hT.lo; have q2 := hT.hi
    have i1 : IntKind.i64.wrap (T.first + k + n) = T.first + k + n := IntWalk.i64_in _ (by omega)
    generalize T.lv (k + n) = LN at *
    generalize T.lv k = LV at *
    generalize suA T k n = X at *
    generalize suB T k n = Y at *
    clear hz hl b1 b2
    go_enter Try.func61, Try.ntmps61
    go_wp2_with (first | (go_at_call 178; (with_reducible refine (HC.out _ _ (hv'.up (by repeat' (first | (with_reducible exact Up.refl _) | (with_reducible assumption) | (with_reducible refine Up.alloc ?_ _) | (with_reducible refine Up.drew ?_) | (with_reducible refine Up.grow ?_ _) | (with_reducible refine Up.setCell ?_ (by (try simp); (try omega)) _))))).mono ?_); rintro e w' ⟨rfl, hb⟩; first | (obtain ⟨x, rfl⟩ := Grow.on x hb) | (obtain ⟨x, rfl⟩ := Grow.mk' hb)) | (go_at_call 157; (with_reducible refine (HL.out _ _ (hv'.up (by repeat' (first | (with_reducible exact Up.refl _) | (with_reducible assumption) | (with_reducible refine Up.alloc ?_ _) | (with_reducible refine Up.drew ?_) | (with_reducible refine Up.grow ?_ _) | (with_reducible refine Up.setCell ?_ (by (try simp); (try omega)) _))))).mono ?_); rintro e w' ⟨rfl, hb⟩; first | (obtain ⟨x, rfl⟩ := Grow.on x hb) | (obtain ⟨x, rfl⟩ := Grow.mk' hb)) | (go_at_call 157; (with_reducible refine (HN.out _ _ (hv'.up (by repeat' (first | (with_reducible exact Up.refl _) | (with_reducible assumption) | (with_reducible refine Up.alloc ?_ _) | (with_reducible refine Up.drew ?_) | (with_reducible refine Up.grow ?_ _) | (with_reducible refine Up.setCell ?_ (by (try simp); (try omega)) _))))).mono ?_); rintro e w' ⟨rfl, hb⟩; first | (obtain ⟨x, rfl⟩ := Grow.on x hb) | (obtain ⟨x, rfl⟩ := Grow.mk' hb)) | (go_at_call 180; (with_reducible refine (HF.out _).mono ?_); rintro e w' ⟨rfl, hb⟩; first | (obtain ⟨x, rfl⟩ := Grow.on x hb) | (obtain ⟨x, rfl⟩ := Grow.mk' hb)) | (go_at_call 142; (with_reducible refine (s_In _ _ _ _).mono ?_); rintro e w' ⟨rfl, rfl⟩) | (go_at_call 186; (with_reducible refine (i_In _ _ _ _).mono ?_); rintro e w' ⟨rfl, rfl⟩) | (go_at_call 222; (with_reducible refine (s_Rate _ _).mono ?_); rintro e w' ⟨rfl, rfl⟩) | (go_at_call 165; (with_reducible refine (i_Rate _ _).mono ?_); rintro e w' ⟨rfl, rfl⟩) | (go_at_call 262; (with_reducible refine (i_Years _ _).mono ?_); rintro e w' ⟨rfl, rfl⟩) | (go_at_call 227; (with_reducible refine (s_Amount6 _ _).mono ?_); rintro e w' ⟨rfl, rfl⟩) | (go_at_call 236; (with_reducible refine (s_Sum7 _ _).mono ?_); rintro e w' ⟨rfl, rfl⟩) | ((first | with_reducible refine wp_region_in x (by kernel_rfl) (by kernel_rfl) ?_ | with_reducible refine wp_region_here (by kernel_rfl) (by kernel_rfl) ?_); (repeat (go_big_quiet_step ((first | (go_at_call 178; with_reducible exact Ret.grow _ (HC.out _ _ (hv'.up (by repeat' (first | (with_reducible exact Up.refl _) | (with_reducible assumption) | (with_reducible refine Up.alloc ?_ _) | (with_reducible refine Up.drew ?_) | (with_reducible refine Up.grow ?_ _) | (with_reducible refine Up.setCell ?_ (by (try simp); (try omega)) _)))))) | (go_at_call 157; with_reducible exact Ret.grow _ (HL.out _ _ (hv'.up (by repeat' (first | (with_reducible exact Up.refl _) | (with_reducible assumption) | (with_reducible refine Up.alloc ?_ _) | (with_reducible refine Up.drew ?_) | (with_reducible refine Up.grow ?_ _) | (with_reducible refine Up.setCell ?_ (by (try simp); (try omega)) _)))))) | (go_at_call 157; with_reducible exact Ret.grow _ (HN.out _ _ (hv'.up (by repeat' (first | (with_reducible exact Up.refl _) | (with_reducible assumption) | (with_reducible refine Up.alloc ?_ _) | (with_reducible refine Up.drew ?_) | (with_reducible refine Up.grow ?_ _) | (with_reducible refine Up.setCell ?_ (by (try simp); (try omega)) _)))))) | (go_at_call 180; with_reducible exact Ret.grow _ (HF.out _)) | (go_at_call 142; with_reducible exact Ret.same _ (s_In _ _ _ _)) | (go_at_call 186; with_reducible exact Ret.same _ (i_In _ _ _ _)) | (go_at_call 222; with_reducible exact Ret.same _ (s_Rate _ _)) | (go_at_call 165; with_reducible exact Ret.same _ (i_Rate _ _)) | (go_at_call 262; with_reducible exact Ret.same _ (i_Years _ _)) | (go_at_call 227; with_reducible exact Ret.same _ (s_Amount6 _ _)) | (go_at_call 236; with_reducible exact Ret.same _ (s_Sum7 _ _)))))); refine wpQuiet_nil ?_; intro w' hw'; obtain ⟨x, rfl⟩ := hw'))
    go_ret3
    exact ⟨rfl, (by repeat' (first | (with_reducible exact Up.refl _) | (with_reducible assumption) | (with_reducible refine Up.alloc ?_ _) | (with_reducible refine Up.drew ?_) | (with_reducible refine Up.grow ?_ _) | (with_reducible refine Up.setCell ?_ (by (try simp); (try omega)) _)))⟩
set_option maxRecDepth 100000 in
set_option maxHeartbeats 2000000 in
theorem i_Survival (T : Tab) (age n : Int) (v : Value) (w : World) (hv : TabAt w T v) : Calls Try.prog 60 #[v, .int .i64 age, .int .i64 n] w (RetQ3 w (suC T age n) (suA T (ix T age) n.toNat : Nat) (suB T (ix T age) n.toNat : Nat)) := by
  have HC := i_CodeA T age
  have hv' := hv
  obtain ⟨A, c, rfl, hc, hm, _, hI⟩ := hv
  by_cases hz : aC T age = 0
  case neg =>
    rw [show suC T age n = aC T age from by unfold suC; rw [if_neg hz]]
    rw [RetQ3_bad hz]
    replace HC := Lib.hid HC
    (have hz1 : ((aC T age) != 0) = true := (by simpa using hz)); (have hz2 : ((aC T age) == 0) = false := (by simpa using hz))
    clear hz
    generalize aC T age = K at *
    go_enter Try.func60, Try.ntmps60
    go_wp2_with (first | (go_at_call 181; (with_reducible refine (HC.out _ _ (hv'.up (by repeat' (first | (with_reducible exact Up.refl _) | (with_reducible assumption) | (with_reducible refine Up.alloc ?_ _) | (with_reducible refine Up.drew ?_) | (with_reducible refine Up.grow ?_ _) | (with_reducible refine Up.setCell ?_ (by (try simp); (try omega)) _))))).mono ?_); rintro e w' ⟨rfl, hb⟩; first | (obtain ⟨x, rfl⟩ := Grow.on x hb) | (obtain ⟨x, rfl⟩ := Grow.mk' hb)) | (go_at_call 142; (with_reducible refine (s_In _ _ _ _).mono ?_); rintro e w' ⟨rfl, rfl⟩) | (go_at_call 186; (with_reducible refine (i_In _ _ _ _).mono ?_); rintro e w' ⟨rfl, rfl⟩) | (go_at_call 222; (with_reducible refine (s_Rate _ _).mono ?_); rintro e w' ⟨rfl, rfl⟩) | (go_at_call 165; (with_reducible refine (i_Rate _ _).mono ?_); rintro e w' ⟨rfl, rfl⟩) | (go_at_call 262; (with_reducible refine (i_Years _ _).mono ?_); rintro e w' ⟨rfl, rfl⟩) | (go_at_call 227; (with_reducible refine (s_Amount6 _ _).mono ?_); rintro e w' ⟨rfl, rfl⟩) | (go_at_call 236; (with_reducible refine (s_Sum7 _ _).mono ?_); rintro e w' ⟨rfl, rfl⟩) | ((first | with_reducible refine wp_region_in x (by kernel_rfl) (by kernel_rfl) ?_ | with_reducible refine wp_region_here (by kernel_rfl) (by kernel_rfl) ?_); (repeat (go_big_quiet_step ((first | (go_at_call 181; with_reducible exact Ret.grow _ (HC.out _ _ (hv'.up (by repeat' (first | (with_reducible exact Up.refl _) | (with_reducible assumption) | (with_reducible refine Up.alloc ?_ _) | (with_reducible refine Up.drew ?_) | (with_reducible refine Up.grow ?_ _) | (with_reducible refine Up.setCell ?_ (by (try simp); (try omega)) _)))))) | (go_at_call 142; with_reducible exact Ret.same _ (s_In _ _ _ _)) | (go_at_call 186; with_reducible exact Ret.same _ (i_In _ _ _ _)) | (go_at_call 222; with_reducible exact Ret.same _ (s_Rate _ _)) | (go_at_call 165; with_reducible exact Ret.same _ (i_Rate _ _)) | (go_at_call 262; with_reducible exact Ret.same _ (i_Years _ _)) | (go_at_call 227; with_reducible exact Ret.same _ (s_Amount6 _ _)) | (go_at_call 236; with_reducible exact Ret.same _ (s_Sum7 _ _)))))); refine wpQuiet_nil ?_; intro w' hw'; obtain ⟨x, rfl⟩ := hw'))
    go_ret3
    exact ⟨rfl, (by repeat' (first | (with_reducible exact Up.refl _) | (with_reducible assumption) | (with_reducible refine Up.alloc ?_ _) | (with_reducible refine Up.drew ?_) | (with_reducible refine Up.grow ?_ _) | (with_reducible refine Up.setCell ?_ (by (try simp); (try omega)) _)))⟩
  by_cases hn : inR n 0 150 = true
  case neg =>
    rw [show suC T age n = 2 from by unfold suC; rw [if_pos hz, if_neg hn]]
    rw [RetQ3_bad (by decide)]
    rw [hz] at HC
    replace HC := Lib.hid HC
    have hn := Bool.eq_false_iff.2 hn
    clear hz
    go_enter Try.func60, Try.ntmps60
    go_wp2_with (first | (go_at_call 181; (with_reducible refine (HC.out _ _ (hv'.up (by repeat' (first | (with_reducible exact Up.refl _) | (with_reducible assumption) | (with_reducible refine Up.alloc ?_ _) | (with_reducible refine Up.drew ?_) | (with_reducible refine Up.grow ?_ _) | (with_reducible refine Up.setCell ?_ (by (try simp); (try omega)) _))))).mono ?_); rintro e w' ⟨rfl, hb⟩; first | (obtain ⟨x, rfl⟩ := Grow.on x hb) | (obtain ⟨x, rfl⟩ := Grow.mk' hb)) | (go_at_call 142; (with_reducible refine (s_In _ _ _ _).mono ?_); rintro e w' ⟨rfl, rfl⟩) | (go_at_call 186; (with_reducible refine (i_In _ _ _ _).mono ?_); rintro e w' ⟨rfl, rfl⟩) | (go_at_call 222; (with_reducible refine (s_Rate _ _).mono ?_); rintro e w' ⟨rfl, rfl⟩) | (go_at_call 165; (with_reducible refine (i_Rate _ _).mono ?_); rintro e w' ⟨rfl, rfl⟩) | (go_at_call 262; (with_reducible refine (i_Years _ _).mono ?_); rintro e w' ⟨rfl, rfl⟩) | (go_at_call 227; (with_reducible refine (s_Amount6 _ _).mono ?_); rintro e w' ⟨rfl, rfl⟩) | (go_at_call 236; (with_reducible refine (s_Sum7 _ _).mono ?_); rintro e w' ⟨rfl, rfl⟩) | ((first | with_reducible refine wp_region_in x (by kernel_rfl) (by kernel_rfl) ?_ | with_reducible refine wp_region_here (by kernel_rfl) (by kernel_rfl) ?_); (repeat (go_big_quiet_step ((first | (go_at_call 181; with_reducible exact Ret.grow _ (HC.out _ _ (hv'.up (by repeat' (first | (with_reducible exact Up.refl _) | (with_reducible assumption) | (with_reducible refine Up.alloc ?_ _) | (with_reducible refine Up.drew ?_) | (with_reducible refine Up.grow ?_ _) | (with_reducible refine Up.setCell ?_ (by (try simp); (try omega)) _)))))) | (go_at_call 142; with_reducible exact Ret.same _ (s_In _ _ _ _)) | (go_at_call 186; with_reducible exact Ret.same _ (i_In _ _ _ _)) | (go_at_call 222; with_reducible exact Ret.same _ (s_Rate _ _)) | (go_at_call 165; with_reducible exact Ret.same _ (i_Rate _ _)) | (go_at_call 262; with_reducible exact Ret.same _ (i_Years _ _)) | (go_at_call 227; with_reducible exact Ret.same _ (s_Amount6 _ _)) | (go_at_call 236; with_reducible exact Ret.same _ (s_Sum7 _ _)))))); refine wpQuiet_nil ?_; intro w' hw'; obtain ⟨x, rfl⟩ := hw'))
    go_ret3
    exact ⟨rfl, (by repeat' (first | (with_reducible exact Up.refl _) | (with_reducible assumption) | (with_reducible refine Up.alloc ?_ _) | (with_reducible refine Up.drew ?_) | (with_reducible refine Up.grow ?_ _) | (with_reducible refine Up.setCell ?_ (by (try simp); (try omega)) _)))⟩
  obtain ⟨hT, k, rfl, hk⟩ := aC_ok hz
  have hnb := inR_true.1 hn
  have HL := i_LivesA hT k (by omega)
  by_cases hl : T.lv k = 0
  · rw [show suC T (T.first + k) n = 5 from by unfold suC; rw [if_pos hz, if_pos hn, ix_k, if_pos hl]]
    rw [RetQ3_bad (by decide)]
    rw [hz] at HC
    rw [hl] at HL
    replace HC := Lib.hid HC
    replace HL := Lib.hid HL
    clear hz hl
    go_enter Try.func60, Try.ntmps60
    go_wp2_with (first | (go_at_call 181; (with_reducible refine (HC.out _ _ (hv'.up (by repeat' (first | (with_reducible exact Up.refl _) | (with_reducible assumption) | (with_reducible refine Up.alloc ?_ _) | (with_reducible refine Up.drew ?_) | (with_reducible refine Up.grow ?_ _) | (with_reducible refine Up.setCell ?_ (by (try simp); (try omega)) _))))).mono ?_); rintro e w' ⟨rfl, hb⟩; first | (obtain ⟨x, rfl⟩ := Grow.on x hb) | (obtain ⟨x, rfl⟩ := Grow.mk' hb)) | (go_at_call 161; (with_reducible refine (HL.out _ _ (hv'.up (by repeat' (first | (with_reducible exact Up.refl _) | (with_reducible assumption) | (with_reducible refine Up.alloc ?_ _) | (with_reducible refine Up.drew ?_) | (with_reducible refine Up.grow ?_ _) | (with_reducible refine Up.setCell ?_ (by (try simp); (try omega)) _))))).mono ?_); rintro e w' ⟨rfl, hb⟩; first | (obtain ⟨x, rfl⟩ := Grow.on x hb) | (obtain ⟨x, rfl⟩ := Grow.mk' hb)) | (go_at_call 142; (with_reducible refine (s_In _ _ _ _).mono ?_); rintro e w' ⟨rfl, rfl⟩) | (go_at_call 186; (with_reducible refine (i_In _ _ _ _).mono ?_); rintro e w' ⟨rfl, rfl⟩) | (go_at_call 222; (with_reducible refine (s_Rate _ _).mono ?_); rintro e w' ⟨rfl, rfl⟩) | (go_at_call 165; (with_reducible refine (i_Rate _ _).mono ?_); rintro e w' ⟨rfl, rfl⟩) | (go_at_call 262; (with_reducible refine (i_Years _ _).mono ?_); rintro e w' ⟨rfl, rfl⟩) | (go_at_call 227; (with_reducible refine (s_Amount6 _ _).mono ?_); rintro e w' ⟨rfl, rfl⟩) | (go_at_call 236; (with_reducible refine (s_Sum7 _ _).mono ?_); rintro e w' ⟨rfl, rfl⟩) | ((first | with_reducible refine wp_region_in x (by kernel_rfl) (by kernel_rfl) ?_ | with_reducible refine wp_region_here (by kernel_rfl) (by kernel_rfl) ?_); (repeat (go_big_quiet_step ((first | (go_at_call 181; with_reducible exact Ret.grow _ (HC.out _ _ (hv'.up (by repeat' (first | (with_reducible exact Up.refl _) | (with_reducible assumption) | (with_reducible refine Up.alloc ?_ _) | (with_reducible refine Up.drew ?_) | (with_reducible refine Up.grow ?_ _) | (with_reducible refine Up.setCell ?_ (by (try simp); (try omega)) _)))))) | (go_at_call 161; with_reducible exact Ret.grow _ (HL.out _ _ (hv'.up (by repeat' (first | (with_reducible exact Up.refl _) | (with_reducible assumption) | (with_reducible refine Up.alloc ?_ _) | (with_reducible refine Up.drew ?_) | (with_reducible refine Up.grow ?_ _) | (with_reducible refine Up.setCell ?_ (by (try simp); (try omega)) _)))))) | (go_at_call 142; with_reducible exact Ret.same _ (s_In _ _ _ _)) | (go_at_call 186; with_reducible exact Ret.same _ (i_In _ _ _ _)) | (go_at_call 222; with_reducible exact Ret.same _ (s_Rate _ _)) | (go_at_call 165; with_reducible exact Ret.same _ (i_Rate _ _)) | (go_at_call 262; with_reducible exact Ret.same _ (i_Years _ _)) | (go_at_call 227; with_reducible exact Ret.same _ (s_Amount6 _ _)) | (go_at_call 236; with_reducible exact Ret.same _ (s_Sum7 _ _)))))); refine wpQuiet_nil ?_; intro w' hw'; obtain ⟨x, rfl⟩ := hw'))
    go_ret3
    exact ⟨rfl, (by repeat' (first | (with_reducible exact Up.refl _) | (with_reducible assumption) | (with_reducible refine Up.alloc ?_ _) | (with_reducible refine Up.drew ?_) | (with_reducible refine Up.grow ?_ _) | (with_reducible refine Up.setCell ?_ (by (try simp); (try omega)) _)))⟩
  · have hl1 : (T.lv k == 0) = false := by simpa using hl
    rw [show suC T (T.first + k) n = 0 from by unfold suC; rw [if_pos hz, if_pos hn, ix_k, if_neg hl]]
    rw [RetQ3_ok, ix_k]
    rw [hz] at HC
    replace HC := Lib.hid HC
    replace HL := Lib.hid HL
    obtain ⟨n, rfl⟩ : ∃ n' : Nat, n = n' := ⟨n.toNat, by omega⟩
    rw [Int.toNat_natCast]
    have HN : ∀ v w, TabAt w T v → Calls Try.prog 161 #[v, .int .i64 (T.first + k + n)] w (Ret w (.int .i64 (T.lv (k + n)))) := fun v w hv => by
      have h := i_LivesA hT (k + n) (by omega) v w hv
      rwa [show T.first + ((k + n : Nat) : Int) = T.first + k + n from by omega] at h
    replace HN := Lib.hid HN
    have b1 := hT.lv_bd k
    have b2 := hT.lv_bd (k + n)
    have HF : ∀ w, Calls Try.prog 176 #[.int .i64 (T.lv (k + n)), .int .i64 (T.lv k)] w (Ret w (.tuple #[.int .i64 (suA T k n : Nat), .int .i64 (suB T k n : Nat)])) := fun w => by
      have h := i_Frac (T.lv (k + n)).toNat (T.lv k).toNat (by omega) (by omega) (by omega) w
      rwa [show (((T.lv (k + n)).toNat : Nat) : Int) = T.lv (k + n) from by omega, show (((T.lv k).toNat : Nat) : Int) = T.lv k from by omega] at h
    replace HF := Lib.hid HF
    have q1 := hT.lo; have q2 := hT.hi
    have i1 : IntKind.i64.wrap (T.first + k + n) = T.first + k + n := IntWalk.i64_in _ (by omega)
    generalize T.lv (k + n) = LN at *
    generalize T.lv k = LV at *
    generalize suA T k n = X at *
    generalize suB T k n = Y at *
    clear hz hl b1 b2
    go_enter Try.func60, Try.ntmps60
    go_wp2_with (first | (go_at_call 181; (with_reducible refine (HC.out _ _ (hv'.up (by repeat' (first | (with_reducible exact Up.refl _) | (with_reducible assumption) | (with_reducible refine Up.alloc ?_ _) | (with_reducible refine Up.drew ?_) | (with_reducible refine Up.grow ?_ _) | (with_reducible refine Up.setCell ?_ (by (try simp); (try omega)) _))))).mono ?_); rintro e w' ⟨rfl, hb⟩; first | (obtain ⟨x, rfl⟩ := Grow.on x hb) | (obtain ⟨x, rfl⟩ := Grow.mk' hb)) | (go_at_call 161; (with_reducible refine (HL.out _ _ (hv'.up (by repeat' (first | (with_reducible exact Up.refl _) | (with_reducible assumption) | (with_reducible refine Up.alloc ?_ _) | (with_reducible refine Up.drew ?_) | (with_reducible refine Up.grow ?_ _) | (with_reducible refine Up.setCell ?_ (by (try simp); (try omega)) _))))).mono ?_); rintro e w' ⟨rfl, hb⟩; first | (obtain ⟨x, rfl⟩ := Grow.on x hb) | (obtain ⟨x, rfl⟩ := Grow.mk' hb)) | (go_at_call 161; (with_reducible refine (HN.out _ _ (hv'.up (by repeat' (first | (with_reducible exact Up.refl _) | (with_reducible assumption) | (with_reducible refine Up.alloc ?_ _) | (with_reducible refine Up.drew ?_) | (with_reducible refine Up.grow ?_ _) | (with_reducible refine Up.setCell ?_ (by (try simp); (try omega)) _))))).mono ?_); rintro e w' ⟨rfl, hb⟩; first | (obtain ⟨x, rfl⟩ := Grow.on x hb) | (obtain ⟨x, rfl⟩ := Grow.mk' hb)) | (go_at_call 176; (with_reducible refine (HF.out _).mono ?_); rintro e w' ⟨rfl, hb⟩; first | (obtain ⟨x, rfl⟩ := Grow.on x hb) | (obtain ⟨x, rfl⟩ := Grow.mk' hb)) | (go_at_call 142; (with_reducible refine (s_In _ _ _ _).mono ?_); rintro e w' ⟨rfl, rfl⟩) | (go_at_call 186; (with_reducible refine (i_In _ _ _ _).mono ?_); rintro e w' ⟨rfl, rfl⟩) | (go_at_call 222; (with_reducible refine (s_Rate _ _).mono ?_); rintro e w' ⟨rfl, rfl⟩) | (go_at_call 165; (with_reducible refine (i_Rate _ _).mono ?_); rintro e w' ⟨rfl, rfl⟩) | (go_at_call 262; (with_reducible refine (i_Years _ _).mono ?_); rintro e w' ⟨rfl, rfl⟩) | (go_at_call 227; (with_reducible refine (s_Amount6 _ _).mono ?_); rintro e w' ⟨rfl, rfl⟩) | (go_at_call 236; (with_reducible refine (s_Sum7 _ _).mono ?_); rintro e w' ⟨rfl, rfl⟩) | ((first | with_reducible refine wp_region_in x (by kernel_rfl) (by kernel_rfl) ?_ | with_reducible refine wp_region_here (by kernel_rfl) (by kernel_rfl) ?_); (repeat (go_big_quiet_step ((first | (go_at_call 181; with_reducible exact Ret.grow _ (HC.out _ _ (hv'.up (by repeat' (first | (with_reducible exact Up.refl _) | (with_reducible assumption) | (with_reducible refine Up.alloc ?_ _) | (with_reducible refine Up.drew ?_) | (with_reducible refine Up.grow ?_ _) | (with_reducible refine Up.setCell ?_ (by (try simp); (try omega)) _)))))) | (go_at_call 161; with_reducible exact Ret.grow _ (HL.out _ _ (hv'.up (by repeat' (first | (with_reducible exact Up.refl _) | (with_reducible assumption) | (with_reducible refine Up.alloc ?_ _) | (with_reducible refine Up.drew ?_) | (with_reducible refine Up.grow ?_ _) | (with_reducible refine Up.setCell ?_ (by (try simp); (try omega)) _)))))) | (go_at_call 161; with_reducible exact Ret.grow _ (HN.out _ _ (hv'.up (by repeat' (first | (with_reducible exact Up.refl _) | (with_reducible assumption) | (with_reducible refine Up.alloc ?_ _) | (with_reducible refine Up.drew ?_) | (with_reducible refine Up.grow ?_ _) | (with_reducible refine Up.setCell ?_ (by (try simp); (try omega)) _)))))) | (go_at_call 176; with_reducible exact Ret.grow _ (HF.out _)) | (go_at_call 142; with_reducible exact Ret.same _ (s_In _ _ _ _)) | (go_at_call 186; with_reducible exact Ret.same _ (i_In _ _ _ _)) | (go_at_call 222; with_reducible exact Ret.same _ (s_Rate _ _)) | (go_at_call 165; with_reducible exact Ret.same _ (i_Rate _ _)) | (go_at_call 262; with_reducible exact Ret.same _ (i_Years _ _)) | (go_at_call 227; with_reducible exact Ret.same _ (s_Amount6 _ _)) | (go_at_call 236; with_reducible exact Ret.same _ (s_Sum7 _ _)))))); refine wpQuiet_nil ?_; intro w' hw'; obtain ⟨x, rfl⟩ := hw'))
    go_ret3
    exact ⟨rfl, (by repeat' (first | (with_reducible exact Up.refl _) | (with_reducible assumption) | (with_reducible refine Up.alloc ?_ _) | (with_reducible refine Up.drew ?_) | (with_reducible refine Up.grow ?_ _) | (with_reducible refine Up.setCell ?_ (by (try simp); (try omega)) _)))⟩
end Go.Proofs.Ytdeoampkbbbleaa
