/- Contract of the program's list of annuity prices. Condition: the slice reads as the table's numbers. -/
import Derived.Test.YtdeoampkbbbleaaIAnn
import Derived.Test.YtdeoampkbbbleaaStep
namespace Go.Proofs.Ytdeoampkbbbleaa
open Go.RowKit Pu

theorem prL_len (T : Tab) (r m : Int) : (prL T r m).length ≤ 1048576 := by
  unfold prL
  by_cases h : prC T r m = 0
  · rw [if_pos h]
    by_cases hT : T.Ok
    · simp; have := hT.n120; omega
    · exfalso
      have e := code6_one (T := T) (r := r) (age := T.first) (n := 0) (b := inR m 1 1000000)
      unfold prC at h; rw [e.2 hT, if_neg (by omega)] at h; omega
  · rw [if_neg h]; simp
theorem prC_cases (T : Tab) (r m : Int) : (¬ T.Ok ∧ prC T r m = 1) ∨ (T.Ok ∧ ¬ (inR r 0 200 = true ∧ inR m 1 1000000 = true) ∧ prC T r m = 2) ∨
    (T.Ok ∧ inR r 0 200 = true ∧ inR m 1 1000000 = true ∧ prC T r m = if T.D r (T.n - 2) = 0 then 5 else 0) := by
  by_cases hT : T.Ok
  case neg =>
    refine Or.inl ⟨hT, ?_⟩
    have e := code6_one (T := T) (r := r) (age := T.first) (n := 0) (b := inR m 1 1000000)
    unfold prC; rw [e.2 hT, if_neg (by omega)]
  have q1 := hT.lo; have q2 := hT.hi
  by_cases hr : inR r 0 200 = true
  case neg =>
    refine Or.inr (Or.inl ⟨hT, fun h => hr h.1, ?_⟩)
    have e : code6 T r T.first (inR m 1 1000000) 0 = 2 := by unfold code6; rw [code5_range hT (fun h => hr (inR_true.2 ⟨h.1, h.2.1⟩))]; rfl
    unfold prC; rw [e, if_neg (by omega)]
  by_cases hm : inR m 1 1000000 = true
  case neg =>
    refine Or.inr (Or.inl ⟨hT, fun h => hm h.2, ?_⟩)
    unfold prC; rw [Bool.eq_false_iff.2 hm, code6_false hT, if_neg (by omega)]
  refine Or.inr (Or.inr ⟨hT, hr, hm, ?_⟩)
  have hr' := inR_true.1 hr
  have e : code6 T r T.first (inR m 1 1000000) 0 = 0 := by
    rw [code6_zero]
    refine ⟨code5_ok hT ⟨hr'.1, hr'.2, by omega, by omega⟩, ⟨hm, by omega, by omega, by omega⟩, ?_⟩
    rw [show (T.first - T.first).toNat = 0 from by omega]
    unfold Tab.D
    have := hT.lv_pos (k := 0) (by have := hT.n2; omega)
    simp only [disc]; omega
  unfold prC; rw [if_pos e]

set_option maxRecDepth 100000 in
set_option maxHeartbeats 1000000 in
theorem i_Prices (T : Tab) (r m : Int) (v : Value) (w : World) (hv : TabAt w T v) :
    Calls Try.prog 113 #[v, .int .i64 r, .int .i64 m] w (RetIC w (prL T r m) (prC T r m)) := by
  have hv' := hv
  obtain ⟨A, c, rfl, hc, hm, _, hI⟩ := hv
  have bad : ¬ prC T r m = 0 → prL T r m = [] := fun h => by unfold prL; rw [if_neg h]
  rcases prC_cases T r m with ⟨hT, e⟩ | ⟨hT, hrm, e⟩ | ⟨hT, hr, hm1, e⟩
  · rw [bad (by omega), e]
    have hb := (Tab.okB_false T).2 hT
    clear bad e
    go_enter Try.func113, Try.ntmps113
    go_wp2_with (first | (go_at_call 74; (with_reducible refine (i_Valid T false hb _ _ (hv'.up (by repeat' (first | (with_reducible exact Up.refl _) | (with_reducible assumption) | (with_reducible refine Up.alloc ?_ _) | (with_reducible refine Up.drew ?_) | (with_reducible refine Up.grow ?_ _) | (with_reducible refine Up.setCell ?_ (by (try simp); (try omega)) _))))).mono ?_); rintro e w' ⟨rfl, hb⟩; first | (obtain ⟨x, rfl⟩ := Grow.on x hb) | (obtain ⟨x, rfl⟩ := Grow.mk' hb)) | (go_at_call 142; (with_reducible refine (s_In _ _ _ _).mono ?_); rintro e w' ⟨rfl, rfl⟩) | (go_at_call 186; (with_reducible refine (i_In _ _ _ _).mono ?_); rintro e w' ⟨rfl, rfl⟩) | (go_at_call 222; (with_reducible refine (s_Rate _ _).mono ?_); rintro e w' ⟨rfl, rfl⟩) | (go_at_call 165; (with_reducible refine (i_Rate _ _).mono ?_); rintro e w' ⟨rfl, rfl⟩) | (go_at_call 262; (with_reducible refine (i_Years _ _).mono ?_); rintro e w' ⟨rfl, rfl⟩) | (go_at_call 227; (with_reducible refine (s_Amount6 _ _).mono ?_); rintro e w' ⟨rfl, rfl⟩) | (go_at_call 236; (with_reducible refine (s_Sum7 _ _).mono ?_); rintro e w' ⟨rfl, rfl⟩) | ((first | with_reducible refine wp_region_in x (by kernel_rfl) (by kernel_rfl) ?_ | with_reducible refine wp_region_here (by kernel_rfl) (by kernel_rfl) ?_); (repeat (go_big_quiet_step ((first | (go_at_call 74; with_reducible exact Ret.grow _ (i_Valid T false hb _ _ (hv'.up (by repeat' (first | (with_reducible exact Up.refl _) | (with_reducible assumption) | (with_reducible refine Up.alloc ?_ _) | (with_reducible refine Up.drew ?_) | (with_reducible refine Up.grow ?_ _) | (with_reducible refine Up.setCell ?_ (by (try simp); (try omega)) _)))))) | (go_at_call 142; with_reducible exact Ret.same _ (s_In _ _ _ _)) | (go_at_call 186; with_reducible exact Ret.same _ (i_In _ _ _ _)) | (go_at_call 222; with_reducible exact Ret.same _ (s_Rate _ _)) | (go_at_call 165; with_reducible exact Ret.same _ (i_Rate _ _)) | (go_at_call 262; with_reducible exact Ret.same _ (i_Years _ _)) | (go_at_call 227; with_reducible exact Ret.same _ (s_Amount6 _ _)) | (go_at_call 236; with_reducible exact Ret.same _ (s_Sum7 _ _)))))); refine wpQuiet_nil ?_; intro w' hw'; obtain ⟨x, rfl⟩ := hw'))
    go_ret2
    exact ⟨_, rfl, (by repeat' (first | (with_reducible exact Up.refl _) | (with_reducible assumption) | (with_reducible refine Up.alloc ?_ _) | (with_reducible refine Up.drew ?_) | (with_reducible refine Up.grow ?_ _) | (with_reducible refine Up.setCell ?_ (by (try simp); (try omega)) _))), Own.nil _ _⟩
  · rw [bad (by omega), e]
    have hb := (Tab.okB_iff T).2 hT
    clear bad e
    by_cases hr : inR r 0 200 = true
    · have hm1 : inR m 1 1000000 = false := Bool.eq_false_iff.2 fun h => hrm ⟨hr, h⟩
      clear hrm
      go_enter Try.func113, Try.ntmps113
      go_wp2_with (first | (go_at_call 74; (with_reducible refine (i_Valid T true hb _ _ (hv'.up (by repeat' (first | (with_reducible exact Up.refl _) | (with_reducible assumption) | (with_reducible refine Up.alloc ?_ _) | (with_reducible refine Up.drew ?_) | (with_reducible refine Up.grow ?_ _) | (with_reducible refine Up.setCell ?_ (by (try simp); (try omega)) _))))).mono ?_); rintro e w' ⟨rfl, hb⟩; first | (obtain ⟨x, rfl⟩ := Grow.on x hb) | (obtain ⟨x, rfl⟩ := Grow.mk' hb)) | (go_at_call 142; (with_reducible refine (s_In _ _ _ _).mono ?_); rintro e w' ⟨rfl, rfl⟩) | (go_at_call 186; (with_reducible refine (i_In _ _ _ _).mono ?_); rintro e w' ⟨rfl, rfl⟩) | (go_at_call 222; (with_reducible refine (s_Rate _ _).mono ?_); rintro e w' ⟨rfl, rfl⟩) | (go_at_call 165; (with_reducible refine (i_Rate _ _).mono ?_); rintro e w' ⟨rfl, rfl⟩) | (go_at_call 262; (with_reducible refine (i_Years _ _).mono ?_); rintro e w' ⟨rfl, rfl⟩) | (go_at_call 227; (with_reducible refine (s_Amount6 _ _).mono ?_); rintro e w' ⟨rfl, rfl⟩) | (go_at_call 236; (with_reducible refine (s_Sum7 _ _).mono ?_); rintro e w' ⟨rfl, rfl⟩) | ((first | with_reducible refine wp_region_in x (by kernel_rfl) (by kernel_rfl) ?_ | with_reducible refine wp_region_here (by kernel_rfl) (by kernel_rfl) ?_); (repeat (go_big_quiet_step ((first | (go_at_call 74; with_reducible exact Ret.grow _ (i_Valid T true hb _ _ (hv'.up (by repeat' (first | (with_reducible exact Up.refl _) | (with_reducible assumption) | (with_reducible refine Up.alloc ?_ _) | (with_reducible refine Up.drew ?_) | (with_reducible refine Up.grow ?_ _) | (with_reducible refine Up.setCell ?_ (by (try simp); (try omega)) _)))))) | (go_at_call 142; with_reducible exact Ret.same _ (s_In _ _ _ _)) | (go_at_call 186; with_reducible exact Ret.same _ (i_In _ _ _ _)) | (go_at_call 222; with_reducible exact Ret.same _ (s_Rate _ _)) | (go_at_call 165; with_reducible exact Ret.same _ (i_Rate _ _)) | (go_at_call 262; with_reducible exact Ret.same _ (i_Years _ _)) | (go_at_call 227; with_reducible exact Ret.same _ (s_Amount6 _ _)) | (go_at_call 236; with_reducible exact Ret.same _ (s_Sum7 _ _)))))); refine wpQuiet_nil ?_; intro w' hw'; obtain ⟨x, rfl⟩ := hw'))
      go_ret2
      exact ⟨_, rfl, (by repeat' (first | (with_reducible exact Up.refl _) | (with_reducible assumption) | (with_reducible refine Up.alloc ?_ _) | (with_reducible refine Up.drew ?_) | (with_reducible refine Up.grow ?_ _) | (with_reducible refine Up.setCell ?_ (by (try simp); (try omega)) _))), Own.nil _ _⟩
    · have hr := Bool.eq_false_iff.2 hr
      clear hrm
      go_enter Try.func113, Try.ntmps113
      go_wp2_with (first | (go_at_call 74; (with_reducible refine (i_Valid T true hb _ _ (hv'.up (by repeat' (first | (with_reducible exact Up.refl _) | (with_reducible assumption) | (with_reducible refine Up.alloc ?_ _) | (with_reducible refine Up.drew ?_) | (with_reducible refine Up.grow ?_ _) | (with_reducible refine Up.setCell ?_ (by (try simp); (try omega)) _))))).mono ?_); rintro e w' ⟨rfl, hb⟩; first | (obtain ⟨x, rfl⟩ := Grow.on x hb) | (obtain ⟨x, rfl⟩ := Grow.mk' hb)) | (go_at_call 142; (with_reducible refine (s_In _ _ _ _).mono ?_); rintro e w' ⟨rfl, rfl⟩) | (go_at_call 186; (with_reducible refine (i_In _ _ _ _).mono ?_); rintro e w' ⟨rfl, rfl⟩) | (go_at_call 222; (with_reducible refine (s_Rate _ _).mono ?_); rintro e w' ⟨rfl, rfl⟩) | (go_at_call 165; (with_reducible refine (i_Rate _ _).mono ?_); rintro e w' ⟨rfl, rfl⟩) | (go_at_call 262; (with_reducible refine (i_Years _ _).mono ?_); rintro e w' ⟨rfl, rfl⟩) | (go_at_call 227; (with_reducible refine (s_Amount6 _ _).mono ?_); rintro e w' ⟨rfl, rfl⟩) | (go_at_call 236; (with_reducible refine (s_Sum7 _ _).mono ?_); rintro e w' ⟨rfl, rfl⟩) | ((first | with_reducible refine wp_region_in x (by kernel_rfl) (by kernel_rfl) ?_ | with_reducible refine wp_region_here (by kernel_rfl) (by kernel_rfl) ?_); (repeat (go_big_quiet_step ((first | (go_at_call 74; with_reducible exact Ret.grow _ (i_Valid T true hb _ _ (hv'.up (by repeat' (first | (with_reducible exact Up.refl _) | (with_reducible assumption) | (with_reducible refine Up.alloc ?_ _) | (with_reducible refine Up.drew ?_) | (with_reducible refine Up.grow ?_ _) | (with_reducible refine Up.setCell ?_ (by (try simp); (try omega)) _)))))) | (go_at_call 142; with_reducible exact Ret.same _ (s_In _ _ _ _)) | (go_at_call 186; with_reducible exact Ret.same _ (i_In _ _ _ _)) | (go_at_call 222; with_reducible exact Ret.same _ (s_Rate _ _)) | (go_at_call 165; with_reducible exact Ret.same _ (i_Rate _ _)) | (go_at_call 262; with_reducible exact Ret.same _ (i_Years _ _)) | (go_at_call 227; with_reducible exact Ret.same _ (s_Amount6 _ _)) | (go_at_call 236; with_reducible exact Ret.same _ (s_Sum7 _ _)))))); refine wpQuiet_nil ?_; intro w' hw'; obtain ⟨x, rfl⟩ := hw'))
      go_ret2
      exact ⟨_, rfl, (by repeat' (first | (with_reducible exact Up.refl _) | (with_reducible assumption) | (with_reducible refine Up.alloc ?_ _) | (with_reducible refine Up.drew ?_) | (with_reducible refine Up.grow ?_ _) | (with_reducible refine Up.setCell ?_ (by (try simp); (try omega)) _))), Own.nil _ _⟩
  have hb1 := (Tab.okB_iff T).2 hT
  have hr' := inR_true.1 hr
  have h0 := hr'.1
  have b1 := inR_true.1 hm1
  have q1 := hT.lo; have q2 := hT.hi; have q3 := hT.n120; have q4 := hT.n2; have q5 := hT.fin
  have E0 := Lib.hid e
  have HBAD := Lib.hid bad
  obtain ⟨L, hL⟩ : ∃ L : Nat, (151 - T.first).toNat = L := ⟨_, rfl⟩
  have hL1 : T.n ≤ L := by omega
  have HL := Lib.hid hL
  clear e bad hL
  go_enter Try.func113, Try.ntmps113
  go_upto_region 6 with (first | (go_at_call 142; refine (s_In _ _ _ _).mono ?_; rintro e w' ⟨rfl, rfl⟩) | (go_at_call 186; refine (i_In _ _ _ _).mono ?_; rintro e w' ⟨rfl, rfl⟩) | (go_at_call 222; refine (s_Rate _ _).mono ?_; rintro e w' ⟨rfl, rfl⟩) | (go_at_call 165; refine (i_Rate _ _).mono ?_; rintro e w' ⟨rfl, rfl⟩) | (go_at_call 262; refine (i_Years _ _).mono ?_; rintro e w' ⟨rfl, rfl⟩) | (go_at_call 227; refine (s_Amount6 _ _).mono ?_; rintro e w' ⟨rfl, rfl⟩) | (go_at_call 236; refine (s_Sum7 _ _).mono ?_; rintro e w' ⟨rfl, rfl⟩) | (go_at_call 74; refine (i_Valid T true hb1 _ _ (hv'.up (by repeat' (first | (with_reducible exact Up.refl _) | (with_reducible assumption) | (with_reducible refine Up.alloc ?_ _) | (with_reducible refine Up.drew ?_) | (with_reducible refine Up.grow ?_ _) | (with_reducible refine Up.setCell ?_ (by (try simp); (try omega)) _))))).mono ?_; rintro e w' ⟨rfl, hb⟩; first | (obtain ⟨x, rfl⟩ := Grow.on x hb) | (obtain ⟨x, rfl⟩ := Grow.mk' hb)))
  have iT : InW x.to w.heap.size := by have := x.size; simp at this; unfold InW; omega
  have hne : ¬ w.heap.size = x.to.heap.size := by unfold InW at iT; omega
  have hL2 : (0 : Int) ≤ (T.n : Int) - 1 := by omega
  have hL3 : (T.n : Int) - 1 ≤ L := by omega
  have hL4 : (1 : Int) ≤ (T.n : Int) := by omega
  have hL5 : (T.n : Int) ≤ (L : Int) + 1 := by omega
  have hL6 : 1 ≤ T.n := by omega
  have hL7 : T.n ≤ L + 1 := by omega
  have i1 : IntKind.i64.wrap ((T.n : Int) - 1) = (T.n : Int) - 1 := IntWalk.i64_in _ (by omega)
  have i2 : ((T.n : Int) - 1).toNat = T.n - 1 := by omega
  go_region_held3 (fun w' => w'.cell? ⟨w.heap.size, 0, none⟩ = some (.int .i64 T.first) ∧ w'.cell? ⟨w.heap.size, 1, none⟩ = some (.slice A T.n c)) ((repeat' apply And.intro) <;> go_simp) ((go_at_call 197; refine (i_Cols hT h0 hr'.2 _ _ (hv'.up (by repeat' (first | (with_reducible exact Up.refl _) | (with_reducible assumption) | (with_reducible refine Up.alloc ?_ _) | (with_reducible refine Up.drew ?_) | (with_reducible refine Up.grow ?_ _) | (with_reducible refine Up.setCell ?_ (by (try simp); (try omega)) _))))).mono ?_; rintro e w' ⟨vc, rfl, hb2, g, cs, rfl, hblk, hcs⟩; rw [HL.out]; obtain ⟨y, rfl⟩ := Grow.mk' ((Up.drew (Up.alloc (Up.grow (Up.refl _) x) _)).trans hb2)))
  have HC := Lib.hid hcs
  clear hcs
  have hown : Own (w.alloc (.cells #[.int .i64 T.first, .slice A T.n c] 31)) y.to (.slice (some ⟨x.to.heap.size, 0, none⟩) 0 0) [] := (Own.start (w.alloc (.cells #[.int .i64 T.first, .slice A T.n c] 31)) x.size).up ((Up.drew (Up.refl _)).trans hb2)
  clear hb hb2
  go_wp2
  go_loopw [8, 34] (fun o i wr => ∃ (k : Nat) (z : Grow (w.alloc (.cells #[.int .i64 T.first, .slice A T.n c] 31))), k + 1 ≤ T.n ∧ i = .int .i64 k ∧ wr = z.to ∧ Hid (k = 0 ∨ 1 ≤ T.D r (k - 1)) ∧ Own (w.alloc (.cells #[.int .i64 T.first, .slice A T.n c] 31)) z.to o ((List.range k).map (prG T r m)) ∧ Blk z.to g 80 cs) (fun _ i _ => T.n - (intOf i).toNat)
  case atStart => exact ⟨0, y, by omega, rfl, rfl, Lib.hid (Or.inl rfl), hown, hblk⟩
  case round =>
    clear hown hblk
    obtain ⟨k, x, hk, rfl, rfl, HP, hown, hblk⟩ := hrel
    have HO := Lib.hid hown
    have HB := Lib.hid hblk
    clear hown
    by_cases hlt : k + 1 < T.n
    · obtain ⟨e0, e1, e2, e3⟩ := row_at hblk (HC.out k (by rw [HL.out]; omega))
      have hgi : InW x.to g := hblk.inw
      have hlt2 : (k : Int) < (T.n : Int) - 1 := by omega
      clear hblk
      by_cases hdz : T.D r k = 0
      · have f1 : T.D r (T.n - 2) = 0 := by
          have h1 := hT.D_le h0 k (T.n - 2 - k)
          have h2 := (hT.D_bd h0 (T.n - 2)).1
          rw [show k + (T.n - 2 - k) = T.n - 2 from by omega, hdz] at h1
          omega
        have f2 : prC T r m = 5 := by rw [E0.out, if_pos f1]
        rw [HBAD.out (by omega), f2]
        clear f1 f2
        go_wp2
        go_ret2
        exact ⟨_, rfl, (by repeat' (first | (with_reducible exact Up.refl _) | (with_reducible assumption) | (with_reducible refine Up.alloc ?_ _) | (with_reducible refine Up.drew ?_) | (with_reducible refine Up.grow ?_ _) | (with_reducible refine Up.setCell ?_ (by (try simp); (try omega)) _))), Own.nil _ _⟩
      · have hdp : 1 ≤ T.D r k := by have := (hT.D_bd h0 k).1; omega
        have HU := Lib.hid (i_PricedN hT h0 hdp (n := 0) b1.1 b1.2)
        have EU : Hid (prG T r m k = up m (T.N r k) (T.D r k)) := Lib.hid rfl
        have E := Lib.hid (range_snoc (prG T r m) k)
        have HDP := Lib.hid hdp
        have hdz1 : (T.D r k == 0) = false := by simpa using hdz
        clear hdz hdp
        go_wp2_with (first | (go_at_call 159; refine (HU.out _).mono ?_; rintro e w' ⟨rfl, hb3⟩; obtain ⟨u, rfl⟩ := Grow.mk' (((Up.alloc (Up.grow (Up.refl _) x) _)).trans hb3)) | (at_builtin; refine wp_push u.below (HO.out.up ((Up.alloc (Up.refl _) _).trans hb3)) rfl _ _ rfl rfl rfl (by simp; omega) ?_; intro v' y2 hown2 hg2))
        go_roundw
        case rel => exact ⟨k + 1, y2, by omega, by go_num, rfl, Lib.hid (Or.inr HDP.out), by rw [E.out, EU.out]; exact hown2, ((HB.out.up ((Up.alloc (Up.refl _) _).trans hb3)).alloc _).push (World.ownsRow.alloc (HO.out.up ((Up.alloc (Up.refl _) _).trans hb3)) _) hg2⟩
        case measure => simp [intOf]; omega
    · clear hblk
      have hk2 : k = T.n - 1 := by omega
      have hge : (T.n : Int) - 1 ≤ k := by omega
      have f1 : ¬ T.D r (T.n - 2) = 0 := by
        rcases HP.out with h | h
        · omega
        · rw [show k - 1 = T.n - 2 from by omega] at h; omega
      have f2 : prC T r m = 0 := by rw [E0.out, if_neg f1]
      have f3 : prL T r m = (List.range (T.n - 1)).map (prG T r m) := by unfold prL; rw [if_pos f2]
      have E2 := Lib.hid f2
      have E3 := Lib.hid f3
      have HK := Lib.hid hk2
      clear f1 f2 f3 hk2
      go_wp2
      go_ret2
      rw [E2.out, E3.out, ← HK.out]
      exact ⟨_, rfl, (by repeat' (first | (with_reducible exact Up.refl _) | (with_reducible assumption) | (with_reducible refine Up.alloc ?_ _) | (with_reducible refine Up.drew ?_) | (with_reducible refine Up.grow ?_ _) | (with_reducible refine Up.setCell ?_ (by (try simp); (try omega)) _))), HO.out.base (by simp)⟩
end Go.Proofs.Ytdeoampkbbbleaa
