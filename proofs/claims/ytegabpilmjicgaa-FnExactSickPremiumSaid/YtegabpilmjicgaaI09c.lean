/- Contracts of the program's value of a sickness benefit and of its premium. Condition: the slices read as the tables' numbers. -/
import Derived.Test.YtegabpilmjicgaaI09b
namespace Go.Proofs.Ytegabpilmjicgaa
open Go.RowKit Pu

theorem code9_bad2 {T Z : Tab} (hT : T.Ok) (hZ : Z.SOk) {r age n b : Int} (h : ¬ (inR r 0 200 = true ∧ inR age T.first 150 = true ∧ inR n 1 60 = true ∧ age + n ≤ 150 ∧ inR b 1 100000 = true)) : code9 T Z r age n b = 2 := by
  unfold code9
  rw [if_pos hZ]
  unfold code6
  by_cases h5 : 0 ≤ r ∧ r ≤ 200 ∧ T.first ≤ age ∧ age ≤ 150
  · rw [if_pos (code5_ok hT h5), if_neg]
    rintro ⟨h1, h2, h3, h4⟩
    rw [Bool.and_eq_true] at h1
    exact h ⟨inR_true.2 ⟨h5.1, h5.2.1⟩, inR_true.2 ⟨h5.2.2.1, h5.2.2.2⟩, h1.1, h4, h1.2⟩
  · rw [code5_range hT h5]; rfl
theorem i_Sick (T Z : Tab) (r age n b : Int) (v z : Value) (w : World) (hv : TabAt w T v) (hz : TabAt w Z z) :
    Calls Try.prog 117 #[v, z, .int .i64 r, .int .i64 age, .int .i64 n, .int .i64 b] w (RetSick w T Z r age n b (code9 T Z r age n b)) := by
  by_cases hT : T.Ok
  case neg =>
    have e : code9 T Z r age n b = 1 := by
      unfold code9
      by_cases hZ : Z.SOk
      · rw [if_pos hZ]; unfold code6; rw [code5_bad hT]; rfl
      · rw [if_neg hZ]
    rw [e, RetSick_bad (by omega)]
    exact i_SickBadA T Z r age n b v z w hv hz ((Tab.okB_false T).2 hT)
  have hTb := (Tab.okB_iff T).2 hT
  by_cases hZ : Z.SOk
  case neg =>
    have e : code9 T Z r age n b = 1 := by unfold code9; rw [if_neg hZ]
    rw [e, RetSick_bad (by omega)]
    exact i_SickBadB T Z r age n b v z w hv hz hTb ⟨(fun h => (by cases h)), (fun h => absurd h hZ)⟩
  have hbb : true = true ↔ Z.SOk := ⟨fun _ => hZ, fun _ => rfl⟩
  have bad : ¬ (inR r 0 200 = true ∧ inR age T.first 150 = true ∧ inR n 1 60 = true ∧ age + n ≤ 150 ∧ inR b 1 100000 = true) → Calls Try.prog 117 #[v, z, .int .i64 r, .int .i64 age, .int .i64 n, .int .i64 b] w (Ret w (.tuple #[.int .i64 0, spp0, .int .i64 2])) → Calls Try.prog 117 #[v, z, .int .i64 r, .int .i64 age, .int .i64 n, .int .i64 b] w (RetSick w T Z r age n b (code9 T Z r age n b)) := fun h1 h2 => by
    rw [code9_bad2 hT hZ h1, RetSick_bad (by omega)]; exact h2
  by_cases hr : inR r 0 200 = true
  case neg => exact bad (fun h => hr h.1) (i_SickBadC T Z r age n b v z w hv hz hTb hbb (Bool.eq_false_iff.2 hr))
  by_cases ha : inR age T.first 150 = true
  case neg => exact bad (fun h => ha h.2.1) (i_SickBadD T Z r age n b v z w hv hz hTb hbb hr (Bool.eq_false_iff.2 ha))
  by_cases hn : inR n 1 60 = true
  case neg => exact bad (fun h => hn h.2.2.1) (i_SickBadE T Z r age n b v z w hv hz hTb hbb hr ha (Bool.eq_false_iff.2 hn))
  have ha' := inR_true.1 ha
  have hn' := inR_true.1 hn
  have q0 := hT.lo
  by_cases hl : age + n ≤ 150
  case neg => exact bad (fun h => hl h.2.2.2.1) (i_SickBadF T Z r age n b v z w hv hz hTb hbb hr ha hn (by omega) (by omega))
  by_cases hm : inR b 1 100000 = true
  case neg => exact bad (fun h => hm h.2.2.2.2) (i_SickBadG T Z r age n b v z w hv hz hTb hbb hr ha hn hl (by omega) (Bool.eq_false_iff.2 hm))
  have hr' := inR_true.1 hr
  obtain ⟨k, hk⟩ : ∃ k : Nat, age = T.first + k := ⟨(age - T.first).toNat, by omega⟩
  obtain ⟨j, rfl⟩ := Int.eq_ofNat_of_zero_le (show 0 ≤ n by omega)
  subst hk
  have e6 : code9 T Z r (T.first + k) j b = if T.D r k = 0 then 5 else 0 := by
    unfold code9
    rw [if_pos hZ]
    unfold code6
    rw [if_pos (code5_ok hT ⟨hr'.1, hr'.2, ha'.1, ha'.2⟩), if_pos ⟨by rw [hn, hm]; rfl, by omega, by omega, hl⟩, kk]
  by_cases hd : T.D r k = 0
  · rw [e6, if_pos hd, RetSick_bad (by omega)]
    exact i_SickGoD T Z r b k j v z w hv hz hT hZ hr ha hn hl hm hd
  · rw [e6, if_neg hd]
    have hd1 := (hT.D_bd hr'.1 k).1
    unfold RetSick svV
    rw [if_pos rfl, if_pos rfl, kk, Int.toNat_natCast]
    exact i_SickGoK T Z r b k j v z w hv hz hT hZ hr ha hn hl hm (by omega) (by simpa using hd)
set_option maxRecDepth 100000 in
theorem i_SV (T Z : Tab) (r age n b : Int) (v z : Value) (w : World) (hv : TabAt w T v) (hz : TabAt w Z z) :
    Calls Try.prog 73 #[v, z, .int .i64 r, .int .i64 age, .int .i64 n, .int .i64 b] w (RetQ w (code9 T Z r age n b) (svV T Z r age n b)) := by
  have hv' := hv
  have hz' := hz
  obtain ⟨A, c, rfl, hc, hm, _, hI⟩ := hv
  obtain ⟨A2, c2, rfl, hc2, hm2, _, hI2⟩ := hz
  have HC := i_Sick T Z r age n b
  by_cases hk : code9 T Z r age n b = 0
  case neg =>
    rw [RetQ_bad hk]
    have HC : ∀ v z w, TabAt w T v → TabAt w Z z → Calls Try.prog 117 #[v, z, .int .i64 r, .int .i64 age, .int .i64 n, .int .i64 b] w (Ret w (.tuple #[.int .i64 0, .agg #[.int .i64 0, .int .i64 0, .int .i64 0], .int .i64 (code9 T Z r age n b)])) := fun v z w h1 h2 => by have := HC v z w h1 h2; rwa [RetSick_bad hk] at this
    replace HC := Lib.hid HC
    clear hk
    generalize code9 T Z r age n b = K at *
    go_enter Try.func73, Try.ntmps73
    go_wp2_with (first | (go_at_call 117; (with_reducible refine (HC.out _ _ _ (hv'.up (by repeat' (first | (with_reducible exact Up.refl _) | (with_reducible assumption) | (with_reducible refine Up.alloc ?_ _) | (with_reducible refine Up.drew ?_) | (with_reducible refine Up.grow ?_ _) | (with_reducible refine Up.setCell ?_ (by (try simp); (try omega)) _)))) (hz'.up (by repeat' (first | (with_reducible exact Up.refl _) | (with_reducible assumption) | (with_reducible refine Up.alloc ?_ _) | (with_reducible refine Up.drew ?_) | (with_reducible refine Up.grow ?_ _) | (with_reducible refine Up.setCell ?_ (by (try simp); (try omega)) _))))).mono ?_); rintro e w' ⟨rfl, hb⟩; first | (obtain ⟨x, rfl⟩ := Grow.on x hb) | (obtain ⟨x, rfl⟩ := Grow.mk' hb)) | (go_at_call 92; (with_reducible refine (s_In _ _ _ _).mono ?_); rintro e w' ⟨rfl, rfl⟩) | (go_at_call 96; (with_reducible refine (i_In _ _ _ _).mono ?_); rintro e w' ⟨rfl, rfl⟩) | (go_at_call 142; (with_reducible refine (s_Rate _ _).mono ?_); rintro e w' ⟨rfl, rfl⟩) | (go_at_call 104; (with_reducible refine (i_Rate _ _).mono ?_); rintro e w' ⟨rfl, rfl⟩) | (go_at_call 132; (with_reducible refine (i_Years _ _).mono ?_); rintro e w' ⟨rfl, rfl⟩) | (go_at_call 98; (with_reducible refine (s_Amount6 _ _).mono ?_); rintro e w' ⟨rfl, rfl⟩) | (go_at_call 108; (with_reducible refine (s_Sum7 _ _).mono ?_); rintro e w' ⟨rfl, rfl⟩) | ((first | with_reducible refine wp_region_in x (by kernel_rfl) (by kernel_rfl) ?_ | with_reducible refine wp_region_here (by kernel_rfl) (by kernel_rfl) ?_); (repeat (go_big_quiet_step ((first | (go_at_call 117; with_reducible exact Ret.grow _ (HC.out _ _ _ (hv'.up (by repeat' (first | (with_reducible exact Up.refl _) | (with_reducible assumption) | (with_reducible refine Up.alloc ?_ _) | (with_reducible refine Up.drew ?_) | (with_reducible refine Up.grow ?_ _) | (with_reducible refine Up.setCell ?_ (by (try simp); (try omega)) _)))) (hz'.up (by repeat' (first | (with_reducible exact Up.refl _) | (with_reducible assumption) | (with_reducible refine Up.alloc ?_ _) | (with_reducible refine Up.drew ?_) | (with_reducible refine Up.grow ?_ _) | (with_reducible refine Up.setCell ?_ (by (try simp); (try omega)) _)))))) | (go_at_call 92; with_reducible exact Ret.same _ (s_In _ _ _ _)) | (go_at_call 96; with_reducible exact Ret.same _ (i_In _ _ _ _)) | (go_at_call 142; with_reducible exact Ret.same _ (s_Rate _ _)) | (go_at_call 104; with_reducible exact Ret.same _ (i_Rate _ _)) | (go_at_call 132; with_reducible exact Ret.same _ (i_Years _ _)) | (go_at_call 98; with_reducible exact Ret.same _ (s_Amount6 _ _)) | (go_at_call 108; with_reducible exact Ret.same _ (s_Sum7 _ _)))))); refine wpQuiet_nil ?_; intro w' hw'; obtain ⟨x, rfl⟩ := hw'))
    go_ret2
    exact ⟨rfl, (by repeat' (first | (with_reducible exact Up.refl _) | (with_reducible assumption) | (with_reducible refine Up.alloc ?_ _) | (with_reducible refine Up.drew ?_) | (with_reducible refine Up.grow ?_ _) | (with_reducible refine Up.setCell ?_ (by (try simp); (try omega)) _)))⟩
  rw [hk] at HC ⊢
  rw [RetQ_ok]
  have HC : ∀ v z w, TabAt w T v → TabAt w Z z → Calls Try.prog 117 #[v, z, .int .i64 r, .int .i64 age, .int .i64 n, .int .i64 b] w (Ret w (.tuple #[.int .i64 (svV T Z r age n b), .agg #[.int .i64 0, .int .i64 (T.D r (age - T.first).toNat), .int .i64 (T.N r (age - T.first).toNat - T.N r ((age - T.first).toNat + n.toNat))], .int .i64 0])) := HC
  replace HC := Lib.hid HC
  clear hk
  generalize svV T Z r age n b = V at *
  generalize T.N r (age - T.first).toNat - T.N r ((age - T.first).toNat + n.toNat) = N at *
  generalize T.D r (age - T.first).toNat = D at *
  go_enter Try.func73, Try.ntmps73
  go_wp2_with (first | (go_at_call 117; (with_reducible refine (HC.out _ _ _ (hv'.up (by repeat' (first | (with_reducible exact Up.refl _) | (with_reducible assumption) | (with_reducible refine Up.alloc ?_ _) | (with_reducible refine Up.drew ?_) | (with_reducible refine Up.grow ?_ _) | (with_reducible refine Up.setCell ?_ (by (try simp); (try omega)) _)))) (hz'.up (by repeat' (first | (with_reducible exact Up.refl _) | (with_reducible assumption) | (with_reducible refine Up.alloc ?_ _) | (with_reducible refine Up.drew ?_) | (with_reducible refine Up.grow ?_ _) | (with_reducible refine Up.setCell ?_ (by (try simp); (try omega)) _))))).mono ?_); rintro e w' ⟨rfl, hb⟩; first | (obtain ⟨x, rfl⟩ := Grow.on x hb) | (obtain ⟨x, rfl⟩ := Grow.mk' hb)) | (go_at_call 92; (with_reducible refine (s_In _ _ _ _).mono ?_); rintro e w' ⟨rfl, rfl⟩) | (go_at_call 96; (with_reducible refine (i_In _ _ _ _).mono ?_); rintro e w' ⟨rfl, rfl⟩) | (go_at_call 142; (with_reducible refine (s_Rate _ _).mono ?_); rintro e w' ⟨rfl, rfl⟩) | (go_at_call 104; (with_reducible refine (i_Rate _ _).mono ?_); rintro e w' ⟨rfl, rfl⟩) | (go_at_call 132; (with_reducible refine (i_Years _ _).mono ?_); rintro e w' ⟨rfl, rfl⟩) | (go_at_call 98; (with_reducible refine (s_Amount6 _ _).mono ?_); rintro e w' ⟨rfl, rfl⟩) | (go_at_call 108; (with_reducible refine (s_Sum7 _ _).mono ?_); rintro e w' ⟨rfl, rfl⟩) | ((first | with_reducible refine wp_region_in x (by kernel_rfl) (by kernel_rfl) ?_ | with_reducible refine wp_region_here (by kernel_rfl) (by kernel_rfl) ?_); (repeat (go_big_quiet_step ((first | (go_at_call 117; with_reducible exact Ret.grow _ (HC.out _ _ _ (hv'.up (by repeat' (first | (with_reducible exact Up.refl _) | (with_reducible assumption) | (with_reducible refine Up.alloc ?_ _) | (with_reducible refine Up.drew ?_) | (with_reducible refine Up.grow ?_ _) | (with_reducible refine Up.setCell ?_ (by (try simp); (try omega)) _)))) (hz'.up (by repeat' (first | (with_reducible exact Up.refl _) | (with_reducible assumption) | (with_reducible refine Up.alloc ?_ _) | (with_reducible refine Up.drew ?_) | (with_reducible refine Up.grow ?_ _) | (with_reducible refine Up.setCell ?_ (by (try simp); (try omega)) _)))))) | (go_at_call 92; with_reducible exact Ret.same _ (s_In _ _ _ _)) | (go_at_call 96; with_reducible exact Ret.same _ (i_In _ _ _ _)) | (go_at_call 142; with_reducible exact Ret.same _ (s_Rate _ _)) | (go_at_call 104; with_reducible exact Ret.same _ (i_Rate _ _)) | (go_at_call 132; with_reducible exact Ret.same _ (i_Years _ _)) | (go_at_call 98; with_reducible exact Ret.same _ (s_Amount6 _ _)) | (go_at_call 108; with_reducible exact Ret.same _ (s_Sum7 _ _)))))); refine wpQuiet_nil ?_; intro w' hw'; obtain ⟨x, rfl⟩ := hw'))
  go_ret2
  exact ⟨rfl, (by repeat' (first | (with_reducible exact Up.refl _) | (with_reducible assumption) | (with_reducible refine Up.alloc ?_ _) | (with_reducible refine Up.drew ?_) | (with_reducible refine Up.grow ?_ _) | (with_reducible refine Up.setCell ?_ (by (try simp); (try omega)) _)))⟩
set_option maxRecDepth 100000 in
theorem i_SP (T Z : Tab) (r age n b : Int) (v z : Value) (w : World) (hv : TabAt w T v) (hz : TabAt w Z z) :
    Calls Try.prog 76 #[v, z, .int .i64 r, .int .i64 age, .int .i64 n, .int .i64 b] w (RetQ w (code9 T Z r age n b) (spV T Z r age n b)) := by
  have hv' := hv
  have hz' := hz
  obtain ⟨A, c, rfl, hc, hm, _, hI⟩ := hv
  obtain ⟨A2, c2, rfl, hc2, hm2, _, hI2⟩ := hz
  have HC := i_Sick T Z r age n b
  by_cases hk : code9 T Z r age n b = 0
  case neg =>
    rw [RetQ_bad hk]
    have HC : ∀ v z w, TabAt w T v → TabAt w Z z → Calls Try.prog 117 #[v, z, .int .i64 r, .int .i64 age, .int .i64 n, .int .i64 b] w (Ret w (.tuple #[.int .i64 0, .agg #[.int .i64 0, .int .i64 0, .int .i64 0], .int .i64 (code9 T Z r age n b)])) := fun v z w h1 h2 => by have := HC v z w h1 h2; rwa [RetSick_bad hk] at this
    replace HC := Lib.hid HC
    (have hz1 : ((code9 T Z r age n b) != 0) = true := (by simpa using hk)); (have hz2 : ((code9 T Z r age n b) == 0) = false := (by simpa using hk))
    clear hk
    generalize code9 T Z r age n b = K at *
    go_enter Try.func76, Try.ntmps76
    go_wp2_with (first | (go_at_call 117; (with_reducible refine (HC.out _ _ _ (hv'.up (by repeat' (first | (with_reducible exact Up.refl _) | (with_reducible assumption) | (with_reducible refine Up.alloc ?_ _) | (with_reducible refine Up.drew ?_) | (with_reducible refine Up.grow ?_ _) | (with_reducible refine Up.setCell ?_ (by (try simp); (try omega)) _)))) (hz'.up (by repeat' (first | (with_reducible exact Up.refl _) | (with_reducible assumption) | (with_reducible refine Up.alloc ?_ _) | (with_reducible refine Up.drew ?_) | (with_reducible refine Up.grow ?_ _) | (with_reducible refine Up.setCell ?_ (by (try simp); (try omega)) _))))).mono ?_); rintro e w' ⟨rfl, hb⟩; first | (obtain ⟨x, rfl⟩ := Grow.on x hb) | (obtain ⟨x, rfl⟩ := Grow.mk' hb)) | (go_at_call 92; (with_reducible refine (s_In _ _ _ _).mono ?_); rintro e w' ⟨rfl, rfl⟩) | (go_at_call 96; (with_reducible refine (i_In _ _ _ _).mono ?_); rintro e w' ⟨rfl, rfl⟩) | (go_at_call 142; (with_reducible refine (s_Rate _ _).mono ?_); rintro e w' ⟨rfl, rfl⟩) | (go_at_call 104; (with_reducible refine (i_Rate _ _).mono ?_); rintro e w' ⟨rfl, rfl⟩) | (go_at_call 132; (with_reducible refine (i_Years _ _).mono ?_); rintro e w' ⟨rfl, rfl⟩) | (go_at_call 98; (with_reducible refine (s_Amount6 _ _).mono ?_); rintro e w' ⟨rfl, rfl⟩) | (go_at_call 108; (with_reducible refine (s_Sum7 _ _).mono ?_); rintro e w' ⟨rfl, rfl⟩) | ((first | with_reducible refine wp_region_in x (by kernel_rfl) (by kernel_rfl) ?_ | with_reducible refine wp_region_here (by kernel_rfl) (by kernel_rfl) ?_); (repeat (go_big_quiet_step ((first | (go_at_call 117; with_reducible exact Ret.grow _ (HC.out _ _ _ (hv'.up (by repeat' (first | (with_reducible exact Up.refl _) | (with_reducible assumption) | (with_reducible refine Up.alloc ?_ _) | (with_reducible refine Up.drew ?_) | (with_reducible refine Up.grow ?_ _) | (with_reducible refine Up.setCell ?_ (by (try simp); (try omega)) _)))) (hz'.up (by repeat' (first | (with_reducible exact Up.refl _) | (with_reducible assumption) | (with_reducible refine Up.alloc ?_ _) | (with_reducible refine Up.drew ?_) | (with_reducible refine Up.grow ?_ _) | (with_reducible refine Up.setCell ?_ (by (try simp); (try omega)) _)))))) | (go_at_call 92; with_reducible exact Ret.same _ (s_In _ _ _ _)) | (go_at_call 96; with_reducible exact Ret.same _ (i_In _ _ _ _)) | (go_at_call 142; with_reducible exact Ret.same _ (s_Rate _ _)) | (go_at_call 104; with_reducible exact Ret.same _ (i_Rate _ _)) | (go_at_call 132; with_reducible exact Ret.same _ (i_Years _ _)) | (go_at_call 98; with_reducible exact Ret.same _ (s_Amount6 _ _)) | (go_at_call 108; with_reducible exact Ret.same _ (s_Sum7 _ _)))))); refine wpQuiet_nil ?_; intro w' hw'; obtain ⟨x, rfl⟩ := hw'))
    go_ret2
    exact ⟨rfl, (by repeat' (first | (with_reducible exact Up.refl _) | (with_reducible assumption) | (with_reducible refine Up.alloc ?_ _) | (with_reducible refine Up.drew ?_) | (with_reducible refine Up.grow ?_ _) | (with_reducible refine Up.setCell ?_ (by (try simp); (try omega)) _)))⟩
  obtain ⟨hT, hZ, h0, h1, hb, hb2, k, m, rfl, rfl, hm1, hm60, hl, hd⟩ := code9_all hk
  rw [hk] at HC ⊢
  rw [RetQ_ok]
  have HC : ∀ v z w, TabAt w T v → TabAt w Z z → Calls Try.prog 117 #[v, z, .int .i64 r, .int .i64 (T.first + k), .int .i64 m, .int .i64 b] w (Ret w (.tuple #[.int .i64 (sickS T Z r k b m), .agg #[.int .i64 0, .int .i64 (T.D r k), .int .i64 (T.N r k - T.N r (k + m))], .int .i64 0])) := fun v z w h1 h2 => by
    have h := HC v z w h1 h2
    unfold RetSick svV at h
    rwa [if_pos rfl, if_pos rfl, kk, Int.toNat_natCast] at h
  unfold spV
  rw [kk, Int.toNat_natCast]
  have hs := sickS_bd hT hZ h0 hd hb hb2 m hm60
  have hN := nn_bd hT h0 k m hm1
  have hD := hT.D_bd h0 k
  have q := qd_le (a := sickS T Z r k b m) (b := T.D r k) (c := T.N r k - T.N r (k + m)) (K := 1) hs.1 (by omega) (by omega)
  have HU := Lib.hid (i_Priced (sickS T Z r k b m) (T.D r k) (T.N r k - T.N r (k + m)) hs.1 (by omega) hD.1 (by omega) (by omega) (by omega) (by omega))
  replace HC := Lib.hid HC
  clear hk hd hs q
  generalize up (sickS T Z r k b m) (T.D r k) (T.N r k - T.N r (k + m)) = U at *
  generalize sickS T Z r k b m = V at *
  generalize T.N r k - T.N r (k + m) = N at *
  generalize T.D r k = D at *
  go_enter Try.func76, Try.ntmps76
  go_wp2_with (first | (go_at_call 117; (with_reducible refine (HC.out _ _ _ (hv'.up (by repeat' (first | (with_reducible exact Up.refl _) | (with_reducible assumption) | (with_reducible refine Up.alloc ?_ _) | (with_reducible refine Up.drew ?_) | (with_reducible refine Up.grow ?_ _) | (with_reducible refine Up.setCell ?_ (by (try simp); (try omega)) _)))) (hz'.up (by repeat' (first | (with_reducible exact Up.refl _) | (with_reducible assumption) | (with_reducible refine Up.alloc ?_ _) | (with_reducible refine Up.drew ?_) | (with_reducible refine Up.grow ?_ _) | (with_reducible refine Up.setCell ?_ (by (try simp); (try omega)) _))))).mono ?_); rintro e w' ⟨rfl, hb⟩; first | (obtain ⟨x, rfl⟩ := Grow.on x hb) | (obtain ⟨x, rfl⟩ := Grow.mk' hb)) | (go_at_call 100; (with_reducible refine (HU.out _).mono ?_); rintro e w' ⟨rfl, hb⟩; first | (obtain ⟨x, rfl⟩ := Grow.on x hb) | (obtain ⟨x, rfl⟩ := Grow.mk' hb)) | (go_at_call 92; (with_reducible refine (s_In _ _ _ _).mono ?_); rintro e w' ⟨rfl, rfl⟩) | (go_at_call 96; (with_reducible refine (i_In _ _ _ _).mono ?_); rintro e w' ⟨rfl, rfl⟩) | (go_at_call 142; (with_reducible refine (s_Rate _ _).mono ?_); rintro e w' ⟨rfl, rfl⟩) | (go_at_call 104; (with_reducible refine (i_Rate _ _).mono ?_); rintro e w' ⟨rfl, rfl⟩) | (go_at_call 132; (with_reducible refine (i_Years _ _).mono ?_); rintro e w' ⟨rfl, rfl⟩) | (go_at_call 98; (with_reducible refine (s_Amount6 _ _).mono ?_); rintro e w' ⟨rfl, rfl⟩) | (go_at_call 108; (with_reducible refine (s_Sum7 _ _).mono ?_); rintro e w' ⟨rfl, rfl⟩) | ((first | with_reducible refine wp_region_in x (by kernel_rfl) (by kernel_rfl) ?_ | with_reducible refine wp_region_here (by kernel_rfl) (by kernel_rfl) ?_); (repeat (go_big_quiet_step ((first | (go_at_call 117; with_reducible exact Ret.grow _ (HC.out _ _ _ (hv'.up (by repeat' (first | (with_reducible exact Up.refl _) | (with_reducible assumption) | (with_reducible refine Up.alloc ?_ _) | (with_reducible refine Up.drew ?_) | (with_reducible refine Up.grow ?_ _) | (with_reducible refine Up.setCell ?_ (by (try simp); (try omega)) _)))) (hz'.up (by repeat' (first | (with_reducible exact Up.refl _) | (with_reducible assumption) | (with_reducible refine Up.alloc ?_ _) | (with_reducible refine Up.drew ?_) | (with_reducible refine Up.grow ?_ _) | (with_reducible refine Up.setCell ?_ (by (try simp); (try omega)) _)))))) | (go_at_call 100; with_reducible exact Ret.grow _ (HU.out _)) | (go_at_call 92; with_reducible exact Ret.same _ (s_In _ _ _ _)) | (go_at_call 96; with_reducible exact Ret.same _ (i_In _ _ _ _)) | (go_at_call 142; with_reducible exact Ret.same _ (s_Rate _ _)) | (go_at_call 104; with_reducible exact Ret.same _ (i_Rate _ _)) | (go_at_call 132; with_reducible exact Ret.same _ (i_Years _ _)) | (go_at_call 98; with_reducible exact Ret.same _ (s_Amount6 _ _)) | (go_at_call 108; with_reducible exact Ret.same _ (s_Sum7 _ _)))))); refine wpQuiet_nil ?_; intro w' hw'; obtain ⟨x, rfl⟩ := hw'))
  go_ret2
  exact ⟨rfl, (by repeat' (first | (with_reducible exact Up.refl _) | (with_reducible assumption) | (with_reducible refine Up.alloc ?_ _) | (with_reducible refine Up.drew ?_) | (with_reducible refine Up.grow ?_ _) | (with_reducible refine Up.setCell ?_ (by (try simp); (try omega)) _)))⟩
end Go.Proofs.Ytegabpilmjicgaa
