/- Contracts of the reference's columns D, C, N, M and of the program's deaths. Conditions: a valid table, a rate from 0 to 200, an age from the first one to 150. -/
import Derived.Test.YtdeoampkbbbleaaTabs
namespace Go.Proofs.Ytdeoampkbbbleaa
open Go.RowKit Pu

section
variable {T : Tab} (hT : T.Ok)
include hT
theorem i_Deaths (age : Int) (h1 : T.first ≤ age) (h2 : age ≤ 300) (v : Value) (w : World) (hv : TabAt w T v) :
    Calls Try.prog 160 #[v, .int .i64 age] w (Ret w (.int .i64 (T.dth (age - T.first).toNat))) := by
  have hv' := hv
  obtain ⟨A, c, rfl, hc, hm, _, hI⟩ := hv
  have q1 := hT.lo; have q2 := hT.hi; have q3 := hT.n120; have q4 := hT.n2
  have l1 := hT.lv_bd (age - T.first).toNat
  have l2 := hT.lv_bd (age + 1 - T.first).toNat
  have E : Hid (T.dth (age - T.first).toNat = T.lv (age - T.first).toNat - T.lv (age + 1 - T.first).toNat) := Lib.hid (by rw [show (age + 1 - T.first).toNat = (age - T.first).toNat + 1 from by omega]; rfl)
  go_enter Try.func160, Try.ntmps160
  go_wp2_with ((first | with_reducible refine wp_region_in x (by kernel_rfl) (by kernel_rfl) ?_ | with_reducible refine wp_region_here (by kernel_rfl) (by kernel_rfl) ?_); (repeat (go_big_quiet_step (((go_at_call 161; exact Ret.grow _ (i_Lives hT _ (by omega) (by omega) _ _ (hv'.up (by repeat' (first | (with_reducible exact Up.refl _) | (with_reducible assumption) | (with_reducible refine Up.alloc ?_ _) | (with_reducible refine Up.drew ?_) | (with_reducible refine Up.grow ?_ _) | (with_reducible refine Up.setCell ?_ (by (try simp); (try omega)) _)))))))))); refine wpQuiet_nil ?_; intro w' hw'; obtain ⟨x, rfl⟩ := hw')
  go_ret
  exact ⟨ret_int E.out.symm, (by repeat' (first | (with_reducible exact Up.refl _) | (with_reducible assumption) | (with_reducible refine Up.alloc ?_ _) | (with_reducible refine Up.drew ?_) | (with_reducible refine Up.grow ?_ _) | (with_reducible refine Up.setCell ?_ (by (try simp); (try omega)) _)))⟩

variable {r : Int} (h0 : 0 ≤ r) (h1 : r ≤ 200)
include h0 h1
theorem s_D (age : Int) (ha : T.first ≤ age) (hb : age ≤ 300) (v : Value) (w : World) (hv : TabAt w T v) :
    Calls Try.prog 152 #[v, .int .i64 r, .int .i64 age] w (Ret w (.int .i64 (T.D r (age - T.first).toNat))) := by
  have hv' := hv
  obtain ⟨A, c, rfl, hc, hm, _, hI⟩ := hv
  have q1 := hT.lo; have q2 := hT.hi; have q3 := hT.n120; have q4 := hT.n2
  have l1 := hT.D_bd h0 (age - T.first).toNat
  have l2 := hT.lv_bd (age - T.first).toNat
  have l3 := disc_bd h0 (age - T.first).toNat
  by_cases hk : 120 < age - T.first
  · have E : Hid (T.D r (age - T.first).toNat = 0) := Lib.hid (hT.D_end (by omega))
    go_enter Try.func152, Try.ntmps152
    go_wp2
    go_ret
    exact ⟨ret_int E.out.symm, (by repeat' (first | (with_reducible exact Up.refl _) | (with_reducible assumption) | (with_reducible refine Up.alloc ?_ _) | (with_reducible refine Up.drew ?_) | (with_reducible refine Up.grow ?_ _) | (with_reducible refine Up.setCell ?_ (by (try simp); (try omega)) _)))⟩
  have hkk : decide (120 < age - T.first) = false := by simpa using hk
  by_cases hz : T.lv (age - T.first).toNat = 0
  · have E : Hid (T.D r (age - T.first).toNat = 0) := Lib.hid (by unfold Tab.D; rw [hz]; simp)
    have hz1 : (T.lv (age - T.first).toNat == 0) = true := by simpa using hz
    clear hz l1 l2
    go_enter Try.func152, Try.ntmps152
    go_wp2_with (go_at_call 157; refine (s_Lives hT _ (by omega) (by omega) _ _ (hv'.up (by repeat' (first | (with_reducible exact Up.refl _) | (with_reducible assumption) | (with_reducible refine Up.alloc ?_ _) | (with_reducible refine Up.drew ?_) | (with_reducible refine Up.grow ?_ _) | (with_reducible refine Up.setCell ?_ (by (try simp); (try omega)) _))))).mono ?_; rintro e w' ⟨rfl, hb⟩; first | (obtain ⟨x, rfl⟩ := Grow.on x hb) | (obtain ⟨x, rfl⟩ := Grow.mk' hb))
    go_ret
    exact ⟨ret_int E.out.symm, (by repeat' (first | (with_reducible exact Up.refl _) | (with_reducible assumption) | (with_reducible refine Up.alloc ?_ _) | (with_reducible refine Up.drew ?_) | (with_reducible refine Up.grow ?_ _) | (with_reducible refine Up.setCell ?_ (by (try simp); (try omega)) _)))⟩
  · have hz1 : (T.lv (age - T.first).toNat == 0) = false := by simpa using hz
    clear hz
    unfold Tab.D at l1 ⊢
    go_enter Try.func152, Try.ntmps152
    go_wp2_with (first | (go_at_call 157; refine (s_Lives hT _ (by omega) (by omega) _ _ (hv'.up (by repeat' (first | (with_reducible exact Up.refl _) | (with_reducible assumption) | (with_reducible refine Up.alloc ?_ _) | (with_reducible refine Up.drew ?_) | (with_reducible refine Up.grow ?_ _) | (with_reducible refine Up.setCell ?_ (by (try simp); (try omega)) _))))).mono ?_; rintro e w' ⟨rfl, hb⟩; first | (obtain ⟨x, rfl⟩ := Grow.on x hb) | (obtain ⟨x, rfl⟩ := Grow.mk' hb)) | (go_at_call 247; refine (s_Disc r h0 h1 _ (by omega) (by omega) _).mono ?_; rintro e w' ⟨rfl, rfl⟩))
    go_ret
    exact ⟨rfl, (by repeat' (first | (with_reducible exact Up.refl _) | (with_reducible assumption) | (with_reducible refine Up.alloc ?_ _) | (with_reducible refine Up.drew ?_) | (with_reducible refine Up.grow ?_ _) | (with_reducible refine Up.setCell ?_ (by (try simp); (try omega)) _)))⟩

theorem s_C (age : Int) (ha : T.first ≤ age) (hb : age ≤ 300) (v : Value) (w : World) (hv : TabAt w T v) :
    Calls Try.prog 200 #[v, .int .i64 r, .int .i64 age] w (Ret w (.int .i64 (T.C r (age - T.first).toNat))) := by
  have hv' := hv
  obtain ⟨A, c, rfl, hc, hm, _, hI⟩ := hv
  have q1 := hT.lo; have q2 := hT.hi; have q3 := hT.n120; have q4 := hT.n2
  have l1 := hT.C_bd h0 (age - T.first).toNat
  have l2 := hT.lv_bd (age - T.first).toNat
  have l3 := hT.lv_bd (age + 1 - T.first).toNat
  have l4 := disc_bd h0 (age - T.first + 1).toNat
  have e1 : (age + 1 - T.first).toNat = (age - T.first).toNat + 1 := by omega
  have e2 : (age - T.first + 1).toNat = (age - T.first).toNat + 1 := by omega
  have E : T.C r (age - T.first).toNat = (T.lv (age - T.first).toNat - T.lv (age + 1 - T.first).toNat) * disc r (age - T.first + 1).toNat := by rw [e1, e2]; rfl
  rw [E] at l1
  have EE := Lib.hid E
  clear e1 e2 E
  by_cases hk : 120 < age - T.first + 1
  · have E2 : Hid (T.C r (age - T.first).toNat = 0) := Lib.hid (hT.C_end (by omega))
    go_enter Try.func200, Try.ntmps200
    go_wp2_with ((first | with_reducible refine wp_region_in x (by kernel_rfl) (by kernel_rfl) ?_ | with_reducible refine wp_region_here (by kernel_rfl) (by kernel_rfl) ?_); (repeat (go_big_quiet_step (((go_at_call 157; exact Ret.grow _ (s_Lives hT _ (by omega) (by omega) _ _ (hv'.up (by repeat' (first | (with_reducible exact Up.refl _) | (with_reducible assumption) | (with_reducible refine Up.alloc ?_ _) | (with_reducible refine Up.drew ?_) | (with_reducible refine Up.grow ?_ _) | (with_reducible refine Up.setCell ?_ (by (try simp); (try omega)) _)))))))))); refine wpQuiet_nil ?_; intro w' hw'; obtain ⟨x, rfl⟩ := hw')
    go_ret
    exact ⟨ret_int E2.out.symm, (by repeat' (first | (with_reducible exact Up.refl _) | (with_reducible assumption) | (with_reducible refine Up.alloc ?_ _) | (with_reducible refine Up.drew ?_) | (with_reducible refine Up.grow ?_ _) | (with_reducible refine Up.setCell ?_ (by (try simp); (try omega)) _)))⟩
  have hkk : decide (120 < age - T.first + 1) = false := by simpa using hk
  by_cases hz : T.lv (age - T.first).toNat - T.lv (age + 1 - T.first).toNat = 0
  · have E2 : Hid (T.C r (age - T.first).toNat = 0) := Lib.hid (by rw [EE.out, hz]; simp)
    have hz1 : (T.lv (age - T.first).toNat - T.lv (age + 1 - T.first).toNat == 0) = true := by simpa using hz
    clear hz l1
    go_enter Try.func200, Try.ntmps200
    go_wp2_with ((first | with_reducible refine wp_region_in x (by kernel_rfl) (by kernel_rfl) ?_ | with_reducible refine wp_region_here (by kernel_rfl) (by kernel_rfl) ?_); (repeat (go_big_quiet_step (((go_at_call 157; exact Ret.grow _ (s_Lives hT _ (by omega) (by omega) _ _ (hv'.up (by repeat' (first | (with_reducible exact Up.refl _) | (with_reducible assumption) | (with_reducible refine Up.alloc ?_ _) | (with_reducible refine Up.drew ?_) | (with_reducible refine Up.grow ?_ _) | (with_reducible refine Up.setCell ?_ (by (try simp); (try omega)) _)))))))))); refine wpQuiet_nil ?_; intro w' hw'; obtain ⟨x, rfl⟩ := hw')
    go_ret
    exact ⟨ret_int E2.out.symm, (by repeat' (first | (with_reducible exact Up.refl _) | (with_reducible assumption) | (with_reducible refine Up.alloc ?_ _) | (with_reducible refine Up.drew ?_) | (with_reducible refine Up.grow ?_ _) | (with_reducible refine Up.setCell ?_ (by (try simp); (try omega)) _)))⟩
  · have hz1 : (T.lv (age - T.first).toNat - T.lv (age + 1 - T.first).toNat == 0) = false := by simpa using hz
    clear hz
    go_enter Try.func200, Try.ntmps200
    go_wp2_with (first | (go_at_call 247; refine (s_Disc r h0 h1 _ (by omega) (by omega) _).mono ?_; rintro e w' ⟨rfl, rfl⟩) | ((first | with_reducible refine wp_region_in x (by kernel_rfl) (by kernel_rfl) ?_ | with_reducible refine wp_region_here (by kernel_rfl) (by kernel_rfl) ?_); (repeat (go_big_quiet_step (((go_at_call 157; exact Ret.grow _ (s_Lives hT _ (by omega) (by omega) _ _ (hv'.up (by repeat' (first | (with_reducible exact Up.refl _) | (with_reducible assumption) | (with_reducible refine Up.alloc ?_ _) | (with_reducible refine Up.drew ?_) | (with_reducible refine Up.grow ?_ _) | (with_reducible refine Up.setCell ?_ (by (try simp); (try omega)) _)))))))))); refine wpQuiet_nil ?_; intro w' hw'; obtain ⟨x, rfl⟩ := hw'))
    go_ret
    exact ⟨ret_int EE.out.symm, (by repeat' (first | (with_reducible exact Up.refl _) | (with_reducible assumption) | (with_reducible refine Up.alloc ?_ _) | (with_reducible refine Up.drew ?_) | (with_reducible refine Up.grow ?_ _) | (with_reducible refine Up.setCell ?_ (by (try simp); (try omega)) _)))⟩

omit h1 in
theorem S_le_N (k m : Nat) : 0 ≤ S (T.D r) k m ∧ S (T.D r) k m ≤ T.N r k ∧ T.N r k ≤ 119000000000000000 := by
  have hb := hT.N_max h0 k
  suffices ∀ m, S (T.D r) k m ≤ T.N r k - T.N r (k + m) by
    have := this m; have := (hT.N_bd h0 (k + m)).1
    exact ⟨S_nonneg _ _ _ fun j => (hT.D_bd h0 j).1, by omega, hb.2⟩
  intro m
  induction m with
  | zero => simp [S]
  | succ m ih => have := hT.N_step (r := r) (k + m); rw [S_succ, show k + (m + 1) = k + m + 1 from by omega]; omega
omit h1 in
theorem S_le_M (k m : Nat) : 0 ≤ S (T.C r) k m ∧ S (T.C r) k m ≤ T.M r k ∧ T.M r k ≤ 1000000000000000 := by
  have hb := hT.M_max h0 k
  suffices ∀ m, S (T.C r) k m ≤ T.M r k - T.M r (k + m) by
    have := this m; have := (hT.M_bd h0 (k + m)).1
    exact ⟨S_nonneg _ _ _ fun j => (hT.C_bd h0 j).1, by omega, hb.2⟩
  intro m
  induction m with
  | zero => simp [S]
  | succ m ih => have := hT.M_step (r := r) (k + m); rw [S_succ, show k + (m + 1) = k + m + 1 from by omega]; omega

set_option maxHeartbeats 400000 in
theorem s_N (age : Int) (ha : T.first ≤ age) (v : Value) (w : World) (hv : TabAt w T v) :
    Calls Try.prog 199 #[v, .int .i64 r, .int .i64 age] w (Ret w (.int .i64 (T.N r (age - T.first).toNat))) := by
  have hv' := hv
  obtain ⟨A, c, rfl, hc, hm, _, hI⟩ := hv
  have q1 := hT.lo; have q2 := hT.hi; have q3 := hT.n120; have q4 := hT.n2
  go_enter Try.func199, Try.ntmps199
  go_wp2
  go_loopw [7, 8] (fun n i wr => ∃ (k : Nat) (x : Grow (w.alloc (.cells #[.int .i64 T.first, .slice A T.n c] 31))), k ≤ T.n - 1 - (age - T.first).toNat ∧ i = .int .i64 (age + k) ∧ wr = x.to ∧ n = .int .i64 (S (T.D r) (age - T.first).toNat k)) (fun _ i _ => (T.first + T.n - intOf i).toNat)
  case atStart => exact ⟨0, ⟨_, Below.refl _ _⟩, by omega, by simp, rfl, rfl⟩
  case round =>
    obtain ⟨k, x, hk, rfl, rfl, rfl⟩ := hrel
    have b1 := S_le_N hT h0 (age - T.first).toNat k
    have b2 := hT.D_bd h0 (age + k - T.first).toNat
    have E : Hid (S (T.D r) (age - T.first).toNat (k + 1) = S (T.D r) (age - T.first).toNat k + T.D r (age + k - T.first).toNat) := Lib.hid (by rw [S_succ, show (age + k - T.first).toNat = (age - T.first).toNat + k from by omega])
    by_cases hlt : age + k < T.first + T.n - 1
    · go_wp2_with (first | (go_at_call 179; refine (s_End hT _ _ (hv'.up (by repeat' (first | (with_reducible exact Up.refl _) | (with_reducible assumption) | (with_reducible refine Up.alloc ?_ _) | (with_reducible refine Up.drew ?_) | (with_reducible refine Up.grow ?_ _) | (with_reducible refine Up.setCell ?_ (by (try simp); (try omega)) _))))).mono ?_; rintro e w' ⟨rfl, hb⟩; first | (obtain ⟨x, rfl⟩ := Grow.on x hb) | (obtain ⟨x, rfl⟩ := Grow.mk' hb)) | (go_at_call 152; refine (s_D hT h0 h1 _ (by omega) (by omega) _ _ (hv'.up (by repeat' (first | (with_reducible exact Up.refl _) | (with_reducible assumption) | (with_reducible refine Up.alloc ?_ _) | (with_reducible refine Up.drew ?_) | (with_reducible refine Up.grow ?_ _) | (with_reducible refine Up.setCell ?_ (by (try simp); (try omega)) _))))).mono ?_; rintro e w' ⟨rfl, hb⟩; first | (obtain ⟨x, rfl⟩ := Grow.on x hb) | (obtain ⟨x, rfl⟩ := Grow.mk' hb)))
      go_roundw
      case rel => exact ⟨k + 1, _, by omega, by go_num, rfl, by rw [E.out]⟩
      case measure => simp [intOf]; omega
    · have E2 : Hid (T.N r (age - T.first).toNat = S (T.D r) (age - T.first).toNat k) := Lib.hid (by unfold Tab.N; rw [show T.n - 1 - (age - T.first).toNat = k from by omega])
      go_wp2_with (go_at_call 179; refine (s_End hT _ _ (hv'.up (by repeat' (first | (with_reducible exact Up.refl _) | (with_reducible assumption) | (with_reducible refine Up.alloc ?_ _) | (with_reducible refine Up.drew ?_) | (with_reducible refine Up.grow ?_ _) | (with_reducible refine Up.setCell ?_ (by (try simp); (try omega)) _))))).mono ?_; rintro e w' ⟨rfl, hb⟩; first | (obtain ⟨x, rfl⟩ := Grow.on x hb) | (obtain ⟨x, rfl⟩ := Grow.mk' hb))
      go_ret
      exact ⟨ret_int E2.out.symm, (by repeat' (first | (with_reducible exact Up.refl _) | (with_reducible assumption) | (with_reducible refine Up.alloc ?_ _) | (with_reducible refine Up.drew ?_) | (with_reducible refine Up.grow ?_ _) | (with_reducible refine Up.setCell ?_ (by (try simp); (try omega)) _)))⟩
set_option maxHeartbeats 400000 in
theorem s_M (age : Int) (ha : T.first ≤ age) (v : Value) (w : World) (hv : TabAt w T v) :
    Calls Try.prog 201 #[v, .int .i64 r, .int .i64 age] w (Ret w (.int .i64 (T.M r (age - T.first).toNat))) := by
  have hv' := hv
  obtain ⟨A, c, rfl, hc, hm, _, hI⟩ := hv
  have q1 := hT.lo; have q2 := hT.hi; have q3 := hT.n120; have q4 := hT.n2
  go_enter Try.func201, Try.ntmps201
  go_wp2
  go_loopw [7, 8] (fun n i wr => ∃ (k : Nat) (x : Grow (w.alloc (.cells #[.int .i64 T.first, .slice A T.n c] 31))), k ≤ T.n - 1 - (age - T.first).toNat ∧ i = .int .i64 (age + k) ∧ wr = x.to ∧ n = .int .i64 (S (T.C r) (age - T.first).toNat k)) (fun _ i _ => (T.first + T.n - intOf i).toNat)
  case atStart => exact ⟨0, ⟨_, Below.refl _ _⟩, by omega, by simp, rfl, rfl⟩
  case round =>
    obtain ⟨k, x, hk, rfl, rfl, rfl⟩ := hrel
    have b1 := S_le_M hT h0 (age - T.first).toNat k
    have b2 := hT.C_bd h0 (age + k - T.first).toNat
    have E : Hid (S (T.C r) (age - T.first).toNat (k + 1) = S (T.C r) (age - T.first).toNat k + T.C r (age + k - T.first).toNat) := Lib.hid (by rw [S_succ, show (age + k - T.first).toNat = (age - T.first).toNat + k from by omega])
    by_cases hlt : age + k < T.first + T.n - 1
    · go_wp2_with (first | (go_at_call 179; refine (s_End hT _ _ (hv'.up (by repeat' (first | (with_reducible exact Up.refl _) | (with_reducible assumption) | (with_reducible refine Up.alloc ?_ _) | (with_reducible refine Up.drew ?_) | (with_reducible refine Up.grow ?_ _) | (with_reducible refine Up.setCell ?_ (by (try simp); (try omega)) _))))).mono ?_; rintro e w' ⟨rfl, hb⟩; first | (obtain ⟨x, rfl⟩ := Grow.on x hb) | (obtain ⟨x, rfl⟩ := Grow.mk' hb)) | (go_at_call 200; refine (s_C hT h0 h1 _ (by omega) (by omega) _ _ (hv'.up (by repeat' (first | (with_reducible exact Up.refl _) | (with_reducible assumption) | (with_reducible refine Up.alloc ?_ _) | (with_reducible refine Up.drew ?_) | (with_reducible refine Up.grow ?_ _) | (with_reducible refine Up.setCell ?_ (by (try simp); (try omega)) _))))).mono ?_; rintro e w' ⟨rfl, hb⟩; first | (obtain ⟨x, rfl⟩ := Grow.on x hb) | (obtain ⟨x, rfl⟩ := Grow.mk' hb)))
      go_roundw
      case rel => exact ⟨k + 1, _, by omega, by go_num, rfl, by rw [E.out]⟩
      case measure => simp [intOf]; omega
    · have E2 : Hid (T.M r (age - T.first).toNat = S (T.C r) (age - T.first).toNat k) := Lib.hid (by unfold Tab.M; rw [show T.n - 1 - (age - T.first).toNat = k from by omega])
      go_wp2_with (go_at_call 179; refine (s_End hT _ _ (hv'.up (by repeat' (first | (with_reducible exact Up.refl _) | (with_reducible assumption) | (with_reducible refine Up.alloc ?_ _) | (with_reducible refine Up.drew ?_) | (with_reducible refine Up.grow ?_ _) | (with_reducible refine Up.setCell ?_ (by (try simp); (try omega)) _))))).mono ?_; rintro e w' ⟨rfl, hb⟩; first | (obtain ⟨x, rfl⟩ := Grow.on x hb) | (obtain ⟨x, rfl⟩ := Grow.mk' hb))
      go_ret
      exact ⟨ret_int E2.out.symm, (by repeat' (first | (with_reducible exact Up.refl _) | (with_reducible assumption) | (with_reducible refine Up.alloc ?_ _) | (with_reducible refine Up.drew ?_) | (with_reducible refine Up.grow ?_ _) | (with_reducible refine Up.setCell ?_ (by (try simp); (try omega)) _)))⟩
end
end Go.Proofs.Ytdeoampkbbbleaa
