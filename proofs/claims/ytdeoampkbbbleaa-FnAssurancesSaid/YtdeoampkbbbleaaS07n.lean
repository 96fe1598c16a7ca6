/- Contract of the reference's natural premiums. Condition: the slice reads as the table's numbers. -/
import Derived.Test.YtdeoampkbbbleaaS07b
namespace Go.Proofs.Ytdeoampkbbbleaa
open Go.RowKit Pu

open Classical in
noncomputable def npC (T : Tab) (r age n m : Int) : Int := if apC T r 1 age n m = 0 then (if T.D r (ix T age + n.toNat - 1) = 0 then 5 else 0) else apC T r 1 age n m
def npG (T : Tab) (r : Int) (k : Nat) (m : Int) (j : Nat) : Int := up m (T.C r (k + j)) (T.D r (k + j))
open Classical in
noncomputable def npL (T : Tab) (r age n m : Int) : List Int := if npC T r age n m = 0 then (List.range n.toNat).map (npG T r (ix T age) m) else []
theorem npL_bad {T : Tab} {r age n m : Int} (h : ¬ npC T r age n m = 0) : npL T r age n m = [] := by unfold npL; rw [if_neg h]
theorem np_q {T : Tab} (hT : T.Ok) {r : Int} (h0 : 0 ≤ r) {k : Nat} (hd : 1 ≤ T.D r k) {m : Int} (hm : 0 ≤ m) (hm2 : m ≤ 100000000) : 0 ≤ T.C r k ∧ T.C r k ≤ 1000000000000000 ∧ 0 ≤ qd m (T.C r k) (T.D r k) ∧ qd m (T.C r k) (T.D r k) ≤ 20000000000 := by
  have b1 := hT.C_bd h0 k
  have b2 := hT.M_bd h0 k
  have b3 := hT.M_step (r := r) k
  have b4 := hT.M_bd h0 (k + 1)
  have b5 := qd_200 (a := m) (b := T.C r k) (m := 100000000) hm hm2 b1.1 hd (by omega)
  omega
theorem s_CK {T : Tab} (hT : T.Ok) {r : Int} (h0 : 0 ≤ r) (h1 : r ≤ 200) (k m : Nat) (hb : T.first + k + m ≤ 300) (v : Value) (w : World) (hv : TabAt w T v) : Calls Try.prog 200 #[v, .int .i64 r, .int .i64 (T.first + k + m)] w (Ret w (.int .i64 (T.C r (k + m)))) := by
  have h := s_C hT h0 h1 (T.first + k + m) (by omega) hb v w hv; rwa [kmm] at h

set_option maxRecDepth 100000 in
set_option maxHeartbeats 1000000 in
theorem s_NP (T : Tab) (r age n m : Int) (v : Value) (w : World) (hv : TabAt w T v) :
    Calls Try.prog 120 #[v, .int .i64 r, .int .i64 age, .int .i64 n, .int .i64 m] w (RetIC w (npL T r age n m) (npC T r age n m)) := by
  have hv' := hv
  obtain ⟨A, c, rfl, hc, hm, _, hI⟩ := hv
  have HC := s_Code7 T r 1 age n (inR m 1 100000000)
  by_cases hz : code7 T r 1 age n (inR m 1 100000000) = 0
  case neg =>
    have e1 : npC T r age n m = code7 T r 1 age n (inR m 1 100000000) := by unfold npC; rw [if_neg (show ¬ apC T r 1 age n m = 0 from hz)]; rfl
    rw [npL_bad (by rw [e1]; exact hz), e1]
    clear e1
    replace HC := Lib.hid HC
    (have hz1 : ((code7 T r 1 age n (inR m 1 100000000)) != 0) = true := (by simpa using hz)); (have hz2 : ((code7 T r 1 age n (inR m 1 100000000)) == 0) = false := (by simpa using hz))
    clear hz
    go_enter Try.func120, Try.ntmps120
    go_wp2_with (first | (go_at_call 235; (with_reducible refine (HC.out _ _ (hv'.up (by repeat' (first | (with_reducible exact Up.refl _) | (with_reducible assumption) | (with_reducible refine Up.alloc ?_ _) | (with_reducible refine Up.drew ?_) | (with_reducible refine Up.grow ?_ _) | (with_reducible refine Up.setCell ?_ (by (try simp); (try omega)) _))))).mono ?_); rintro e w' ⟨rfl, hb⟩; first | (obtain ⟨x, rfl⟩ := Grow.on x hb) | (obtain ⟨x, rfl⟩ := Grow.mk' hb)) | (go_at_call 142; (with_reducible refine (s_In _ _ _ _).mono ?_); rintro e w' ⟨rfl, rfl⟩) | (go_at_call 186; (with_reducible refine (i_In _ _ _ _).mono ?_); rintro e w' ⟨rfl, rfl⟩) | (go_at_call 222; (with_reducible refine (s_Rate _ _).mono ?_); rintro e w' ⟨rfl, rfl⟩) | (go_at_call 165; (with_reducible refine (i_Rate _ _).mono ?_); rintro e w' ⟨rfl, rfl⟩) | (go_at_call 262; (with_reducible refine (i_Years _ _).mono ?_); rintro e w' ⟨rfl, rfl⟩) | (go_at_call 227; (with_reducible refine (s_Amount6 _ _).mono ?_); rintro e w' ⟨rfl, rfl⟩) | (go_at_call 236; (with_reducible refine (s_Sum7 _ _).mono ?_); rintro e w' ⟨rfl, rfl⟩) | ((first | with_reducible refine wp_region_in x (by kernel_rfl) (by kernel_rfl) ?_ | with_reducible refine wp_region_here (by kernel_rfl) (by kernel_rfl) ?_); (repeat (go_big_quiet_step ((first | (go_at_call 235; with_reducible exact Ret.grow _ (HC.out _ _ (hv'.up (by repeat' (first | (with_reducible exact Up.refl _) | (with_reducible assumption) | (with_reducible refine Up.alloc ?_ _) | (with_reducible refine Up.drew ?_) | (with_reducible refine Up.grow ?_ _) | (with_reducible refine Up.setCell ?_ (by (try simp); (try omega)) _)))))) | (go_at_call 142; with_reducible exact Ret.same _ (s_In _ _ _ _)) | (go_at_call 186; with_reducible exact Ret.same _ (i_In _ _ _ _)) | (go_at_call 222; with_reducible exact Ret.same _ (s_Rate _ _)) | (go_at_call 165; with_reducible exact Ret.same _ (i_Rate _ _)) | (go_at_call 262; with_reducible exact Ret.same _ (i_Years _ _)) | (go_at_call 227; with_reducible exact Ret.same _ (s_Amount6 _ _)) | (go_at_call 236; with_reducible exact Ret.same _ (s_Sum7 _ _)))))); refine wpQuiet_nil ?_; intro w' hw'; obtain ⟨x, rfl⟩ := hw'))
    go_ret2
    exact ⟨_, rfl, (by repeat' (first | (with_reducible exact Up.refl _) | (with_reducible assumption) | (with_reducible refine Up.alloc ?_ _) | (with_reducible refine Up.drew ?_) | (with_reducible refine Up.grow ?_ _) | (with_reducible refine Up.setCell ?_ (by (try simp); (try omega)) _))), Own.nil _ _⟩
  rw [hz] at HC
  obtain ⟨hT, h0, h1, hm1, hk1, hk2, k, n, rfl, rfl, hkn, hn, hl, hd⟩ := code7_ok hz
  have b1 := inR_true.1 hm1
  have q1 := hT.lo; have q2 := hT.hi; have q3 := hT.n120; have q4 := hT.n2; have q5 := hT.fin
  have hn1 : 1 ≤ n := by omega
  have e0 : npC T r (T.first + k) n m = if T.D r (k + n - 1) = 0 then 5 else 0 := by unfold npC; rw [if_pos (show apC T r 1 (T.first + k) n m = 0 from hz), ix_k, Int.toNat_natCast]
  have el : npC T r (T.first + k) n m = 0 → npL T r (T.first + k) n m = (List.range n).map (npG T r k m) := fun h => by unfold npL; rw [if_pos h, ix_k, Int.toNat_natCast]
  replace HC := Lib.hid HC
  have E0 := Lib.hid e0
  have EL := Lib.hid el
  have HDD := Lib.hid hd
  clear hz hkn hm1 e0 el hd hk1 hk2
  go_enter Try.func120, Try.ntmps120
  go_wp2_with (first | (go_at_call 235; (with_reducible refine (HC.out _ _ (hv'.up (by repeat' (first | (with_reducible exact Up.refl _) | (with_reducible assumption) | (with_reducible refine Up.alloc ?_ _) | (with_reducible refine Up.drew ?_) | (with_reducible refine Up.grow ?_ _) | (with_reducible refine Up.setCell ?_ (by (try simp); (try omega)) _))))).mono ?_); rintro e w' ⟨rfl, hb⟩; first | (obtain ⟨x, rfl⟩ := Grow.on x hb) | (obtain ⟨x, rfl⟩ := Grow.mk' hb)) | (go_at_call 142; (with_reducible refine (s_In _ _ _ _).mono ?_); rintro e w' ⟨rfl, rfl⟩) | (go_at_call 186; (with_reducible refine (i_In _ _ _ _).mono ?_); rintro e w' ⟨rfl, rfl⟩) | (go_at_call 222; (with_reducible refine (s_Rate _ _).mono ?_); rintro e w' ⟨rfl, rfl⟩) | (go_at_call 165; (with_reducible refine (i_Rate _ _).mono ?_); rintro e w' ⟨rfl, rfl⟩) | (go_at_call 262; (with_reducible refine (i_Years _ _).mono ?_); rintro e w' ⟨rfl, rfl⟩) | (go_at_call 227; (with_reducible refine (s_Amount6 _ _).mono ?_); rintro e w' ⟨rfl, rfl⟩) | (go_at_call 236; (with_reducible refine (s_Sum7 _ _).mono ?_); rintro e w' ⟨rfl, rfl⟩) | ((first | with_reducible refine wp_region_in x (by kernel_rfl) (by kernel_rfl) ?_ | with_reducible refine wp_region_here (by kernel_rfl) (by kernel_rfl) ?_); (repeat (go_big_quiet_step ((first | (go_at_call 235; with_reducible exact Ret.grow _ (HC.out _ _ (hv'.up (by repeat' (first | (with_reducible exact Up.refl _) | (with_reducible assumption) | (with_reducible refine Up.alloc ?_ _) | (with_reducible refine Up.drew ?_) | (with_reducible refine Up.grow ?_ _) | (with_reducible refine Up.setCell ?_ (by (try simp); (try omega)) _)))))) | (go_at_call 142; with_reducible exact Ret.same _ (s_In _ _ _ _)) | (go_at_call 186; with_reducible exact Ret.same _ (i_In _ _ _ _)) | (go_at_call 222; with_reducible exact Ret.same _ (s_Rate _ _)) | (go_at_call 165; with_reducible exact Ret.same _ (i_Rate _ _)) | (go_at_call 262; with_reducible exact Ret.same _ (i_Years _ _)) | (go_at_call 227; with_reducible exact Ret.same _ (s_Amount6 _ _)) | (go_at_call 236; with_reducible exact Ret.same _ (s_Sum7 _ _)))))); refine wpQuiet_nil ?_; intro w' hw'; obtain ⟨x, rfl⟩ := hw'))
  go_loopw [13, 14] (fun o i wr => ∃ (j : Nat) (y : Grow (w.alloc (.cells #[.int .i64 T.first, .slice A T.n c] 31))), j ≤ n ∧ i = .int .i64 (T.first + k + j) ∧ wr = y.to ∧ (j = 0 ∨ 1 ≤ T.D r (k + j - 1)) ∧ Own (w.alloc (.cells #[.int .i64 T.first, .slice A T.n c] 31)) y.to o ((List.range j).map (npG T r k m))) (fun _ i _ => (T.first + k + n - intOf i).toNat)
  case atStart =>
    obtain ⟨y, hy⟩ := Grow.mk' (show Below (w.alloc (.cells #[.int .i64 T.first, .slice A T.n c] 31)).heap.size (w.alloc (.cells #[.int .i64 T.first, .slice A T.n c] 31)) (x.to.alloc (.cells #[] 2)) from x.below.alloc x.size _)
    exact ⟨0, y, by omega, by simp, hy, Or.inl rfl, by rw [← hy]; exact Own.start _ x.size⟩
  case round =>
    obtain ⟨j, x, hk, rfl, rfl, hpos, hown⟩ := hrel
    have HO := Lib.hid hown
    have HP := Lib.hid hpos
    clear hown hpos
    by_cases hlt : j < n
    · have HD := Lib.hid (s_DKM hT h0 h1 k j (by omega))
      have HCC := Lib.hid (s_CK hT h0 h1 k j (by omega))
      by_cases hdz : T.D r (k + j) = 0
      · have e1 : T.D r (k + n - 1) = 0 := by
          have h1 := hT.D_le h0 (k + j) (n - 1 - j)
          have h2 := (hT.D_bd h0 (k + n - 1)).1
          rw [show k + j + (n - 1 - j) = k + n - 1 from by omega, hdz] at h1
          omega
        have e2 : npC T r (T.first + k) n m = 5 := by rw [E0.out, if_pos e1]
        rw [npL_bad (by omega), e2]
        rw [hdz] at HD
        clear e1 e2 hdz
        go_wp2_with (go_at_call 152; refine (HD.out _ _ (hv'.up (by repeat' (first | (with_reducible exact Up.refl _) | (with_reducible assumption) | (with_reducible refine Up.alloc ?_ _) | (with_reducible refine Up.drew ?_) | (with_reducible refine Up.grow ?_ _) | (with_reducible refine Up.setCell ?_ (by (try simp); (try omega)) _))))).mono ?_; rintro e w' ⟨rfl, hb⟩; first | (obtain ⟨x, rfl⟩ := Grow.on x hb) | (obtain ⟨x, rfl⟩ := Grow.mk' hb))
        go_ret2
        exact ⟨_, rfl, (by repeat' (first | (with_reducible exact Up.refl _) | (with_reducible assumption) | (with_reducible refine Up.alloc ?_ _) | (with_reducible refine Up.drew ?_) | (with_reducible refine Up.grow ?_ _) | (with_reducible refine Up.setCell ?_ (by (try simp); (try omega)) _))), Own.nil _ _⟩
      · have hdp : 1 ≤ T.D r (k + j) := by have := (hT.D_bd h0 (k + j)).1; omega
        have b4 := hT.D_bd h0 (k + j)
        have b5 := np_q hT h0 hdp (m := m) (by omega) (by omega)
        have HU := Lib.hid (s_Up m (T.C r (k + j)) (T.D r (k + j)) (by omega) (by omega) (by omega) (by omega) (by omega) (by omega) (by omega))
        have EU : Hid (npG T r k m j = up m (T.C r (k + j)) (T.D r (k + j))) := Lib.hid rfl
        have E := Lib.hid (range_snoc (npG T r k m) j)
        have HDP := Lib.hid hdp
        have hdz1 : (T.D r (k + j) == 0) = false := by simpa using hdz
        clear hdz hdp b4 b5
        go_wp2_with (go_at_call 152; refine (HD.out _ _ (hv'.up (by repeat' (first | (with_reducible exact Up.refl _) | (with_reducible assumption) | (with_reducible refine Up.alloc ?_ _) | (with_reducible refine Up.drew ?_) | (with_reducible refine Up.grow ?_ _) | (with_reducible refine Up.setCell ?_ (by (try simp); (try omega)) _))))).mono ?_; rintro e w' ⟨rfl, hbT⟩; obtain ⟨xt, rfl⟩ := Grow.on x hbT)
        generalize up m (T.C r (k + j)) (T.D r (k + j)) = U at *
        go_region_held3 (fun w' => w'.cell? ⟨w.heap.size, 0, none⟩ = some (.int .i64 T.first) ∧ w'.cell? ⟨w.heap.size, 1, none⟩ = some (.slice A T.n c)) ((repeat' apply And.intro) <;> go_simp)
          (first
            | (go_at_call 200; refine (HCC.out _ _ (hv'.up (by repeat' (first | (with_reducible exact Up.refl _) | (with_reducible assumption) | (with_reducible refine Up.alloc ?_ _) | (with_reducible refine Up.drew ?_) | (with_reducible refine Up.grow ?_ _) | (with_reducible refine Up.setCell ?_ (by (try simp); (try omega)) _))))).mono ?_; rintro e w' ⟨rfl, hbN0⟩; have hbN := (Up.drew (Up.refl xt.to)).trans hbN0; obtain ⟨x1, rfl⟩ := Grow.on xt hbN)
            | (go_at_call 152; refine (HD.out _ _ (hv'.up (by repeat' (first | (with_reducible exact Up.refl _) | (with_reducible assumption) | (with_reducible refine Up.alloc ?_ _) | (with_reducible refine Up.drew ?_) | (with_reducible refine Up.grow ?_ _) | (with_reducible refine Up.setCell ?_ (by (try simp); (try omega)) _))))).mono ?_; rintro e w' ⟨rfl, hbD⟩; obtain ⟨x2, rfl⟩ := Grow.on x1 hbD)
            | (go_at_call 158; refine (HU.out _).mono ?_; rintro e w' ⟨rfl, rfl⟩)
            | (have hup : Up x.to x2.to := (hbT.trans hbN).trans hbD; have hlen : ((List.range j).map (npG T r k m)).length < 1048576 := (by simp; omega); refine step_push x2.below (HO.out.up hup) rfl _ _ rfl rfl rfl hlen ?_; intro v' y hown2 hg2))
        go_wp2
        go_roundw
        case rel => exact ⟨j + 1, y, by omega, by go_num, rfl, Or.inr (by rw [show k + (j + 1) - 1 = k + j from by omega]; exact HDP.out), by rw [E.out, EU.out]; exact hown2⟩
        case measure => simp [intOf]; omega
    · have hj2 : j = n := by omega
      have e1 : ¬ T.D r (k + n - 1) = 0 := by
        rcases HP.out with h | h
        · omega
        · rw [hj2] at h; omega
      have e2 : npC T r (T.first + k) n m = 0 := by rw [E0.out, if_neg e1]
      have E2 := Lib.hid e2
      have E3 := Lib.hid (EL.out e2)
      clear e1 e2
      have HK := Lib.hid hj2
      clear hj2
      go_wp2
      go_ret2
      rw [E2.out, E3.out, ← HK.out]
      exact ⟨_, rfl, (by repeat' (first | (with_reducible exact Up.refl _) | (with_reducible assumption) | (with_reducible refine Up.alloc ?_ _) | (with_reducible refine Up.drew ?_) | (with_reducible refine Up.grow ?_ _) | (with_reducible refine Up.setCell ?_ (by (try simp); (try omega)) _))), HO.out.base (by simp)⟩
end Go.Proofs.Ytdeoampkbbbleaa
