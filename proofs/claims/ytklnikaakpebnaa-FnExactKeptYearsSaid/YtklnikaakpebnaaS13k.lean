/- Contract of the reference's KeptYears. Condition: the slice reads as the table's numbers. -/
import Derived.Test.YtklnikaakpebnaaS12
import Derived.Test.YtklnikaakpebnaaPol2
namespace Go.Proofs.Ytklnikaakpebnaa
open Go.RowKit Pu

set_option maxRecDepth 100000 in
set_option maxHeartbeats 4000000 in
theorem s_KeptYears (T : Tab) (r kind age n m ld j : Int) (v : Value) (w : World) (hv : BasAt w T r v) :
    Calls Try.prog 53 #[v, .agg #[.int .i64 (kind), .int .i64 (age), .int .i64 (n), .int .i64 (m), .int .i64 (ld)], .int .i64 j] w (RetQ w (lvC T r kind age n m ld j) (kyV T r kind (ix T age) n.toNat m j.toNat)) := by
  (have hv' := hv; obtain ⟨A, c, rfl, hc, hm, hbig, hI⟩ := hv; have ht : TabAt w T (.agg #[.int .i64 T.first, .slice A T.n c]) := ⟨A, c, rfl, hc, hm, hbig, hI⟩)
  have HC := s_Code12 T r kind age n m ld j
  by_cases hz : lvC T r kind age n m ld j = 0
  case neg => (rw [RetQ_bad hz]; replace HC := Lib.hid HC; (have hz1 : ((lvC T r kind age n m ld j) != 0) = true := (by simpa using hz)); (have hz2 : ((lvC T r kind age n m ld j) == 0) = false := (by simpa using hz)); clear hz; go_enter Try.func53, Try.ntmps53; go_wp2_with (first | (go_at_call 213; (with_reducible refine (HC.out _ _ (hv'.up (by repeat' (first | (with_reducible exact Up.refl _) | (with_reducible assumption) | (with_reducible refine Up.alloc ?_ _) | (with_reducible refine Up.drew ?_) | (with_reducible refine Up.grow ?_ _) | (with_reducible refine Up.setCell ?_ (by (try simp); (try omega)) _))))).mono ?_); rintro e w' ⟨rfl, hb⟩; first | (obtain ⟨x, rfl⟩ := Grow.on x hb) | (obtain ⟨x, rfl⟩ := Grow.mk' hb)) | (go_at_call 218; (with_reducible refine (s_In _ _ _ _).mono ?_); rintro e w' ⟨rfl, rfl⟩) | (go_at_call 227; (with_reducible refine (i_In _ _ _ _).mono ?_); rintro e w' ⟨rfl, rfl⟩) | (go_at_call 287; (with_reducible refine (s_Rate _ _).mono ?_); rintro e w' ⟨rfl, rfl⟩) | (go_at_call 248; (with_reducible refine (i_Rate _ _).mono ?_); rintro e w' ⟨rfl, rfl⟩) | (go_at_call 323; (with_reducible refine (i_Years _ _).mono ?_); rintro e w' ⟨rfl, rfl⟩) | (go_at_call 292; (with_reducible refine (s_Amount6 _ _).mono ?_); rintro e w' ⟨rfl, rfl⟩) | (go_at_call 226; (with_reducible refine (s_Sum7 _ _).mono ?_); rintro e w' ⟨rfl, rfl⟩) | ((first | with_reducible refine wp_region_in x (by kernel_rfl) (by kernel_rfl) ?_ | with_reducible refine wp_region_here (by kernel_rfl) (by kernel_rfl) ?_); (repeat (go_big_quiet_step ((first | (go_at_call 213; with_reducible exact Ret.grow _ (HC.out _ _ (hv'.up (by repeat' (first | (with_reducible exact Up.refl _) | (with_reducible assumption) | (with_reducible refine Up.alloc ?_ _) | (with_reducible refine Up.drew ?_) | (with_reducible refine Up.grow ?_ _) | (with_reducible refine Up.setCell ?_ (by (try simp); (try omega)) _)))))) | (go_at_call 218; with_reducible exact Ret.same _ (s_In _ _ _ _)) | (go_at_call 227; with_reducible exact Ret.same _ (i_In _ _ _ _)) | (go_at_call 287; with_reducible exact Ret.same _ (s_Rate _ _)) | (go_at_call 248; with_reducible exact Ret.same _ (i_Rate _ _)) | (go_at_call 323; with_reducible exact Ret.same _ (i_Years _ _)) | (go_at_call 292; with_reducible exact Ret.same _ (s_Amount6 _ _)) | (go_at_call 226; with_reducible exact Ret.same _ (s_Sum7 _ _)))))); refine wpQuiet_nil ?_; intro w' hw'; obtain ⟨x, rfl⟩ := hw')); go_ret2; exact ⟨rfl, (by repeat' (first | (with_reducible exact Up.refl _) | (with_reducible assumption) | (with_reducible refine Up.alloc ?_ _) | (with_reducible refine Up.drew ?_) | (with_reducible refine Up.grow ?_ _) | (with_reducible refine Up.setCell ?_ (by (try simp); (try omega)) _)))⟩)
  rw [hz] at HC ⊢
  obtain ⟨k, n, j, rfl, rfl, rfl, hk, hj, hd, hj2⟩ := lvC_ok hz
  simp only [RetQ_ok, ix_k, Int.toNat_natCast]
  have HF := Lib.hid (s_Val12 hk hj hd)
  have HU := Lib.hid (s_Dur hk)
  have db := hk.dur_bd; have da := hk.dur_age; have q1 := hk.hT.lo
  have m1 := hk.m1; have m2 := hk.m2
  have hD := s_DKM hk.hT hk.h0 hk.h1 k j (by omega)
  have dd := hk.hT.D_bd hk.h0 (k + j)
  have HTP (y : Nat) (hy : T.first + (k + j : Nat) + y ≤ 150) : ∀ v w, TabAt w T v → Calls Try.prog 214 #[v, .int .i64 r, .int .i64 1, .int .i64 (T.first + k + j), .int .i64 y] w (Ret w (.int .i64 (T.top r 1 (k + j) y))) := fun v w hv => by
    have h := s_Top hk.hT hk.h0 hk.h1 (kind := 1) (by omega) (by omega) (k := k + j) (m := y) hy v w hv
    rwa [show T.first + ((k + j : Nat) : Int) = T.first + k + j from by omega] at h
  have HUP (y : Nat) : ∀ w, Calls Try.prog 196 #[.int .i64 m, .int .i64 (T.top r 1 (k + j) y), .int .i64 (T.D r (k + j))] w fun e w' => e = .returned (.int .i64 (up m (T.top r 1 (k + j) y) (T.D r (k + j)))) ∧ w = w' := fun w => by
    have t := hk.hT.top_bd hk.h0 1 (k + j) y
    have q := qd_200 (a := m) (b := T.top r 1 (k + j) y) (c := T.D r (k + j)) (m := 100000000) (by omega) m2 t.1 hd (by omega)
    exact s_Up m (T.top r 1 (k + j) y) (T.D r (k + j)) (by omega) (by omega) (by omega) (by omega) (by omega) (by omega) (by omega) w
  replace HC := Lib.hid HC
  replace HTP := Lib.hid HTP
  replace HUP := Lib.hid HUP
  have HD := Lib.hid hD
  unfold kyV
  obtain ⟨V, hV⟩ : ∃ V, T.sv r kind k n m j = V := ⟨_, rfl⟩
  rw [hV] at HF ⊢
  obtain ⟨K, hK⟩ : ∃ K, ky (kyP T r (k + j) m V) (T.dur kind k n - j) = K := ⟨_, rfl⟩
  rw [hK]
  have HKK := Lib.hid hK
  have i1 : IntKind.i64.wrap (T.first + k + j) = T.first + k + j := IntWalk.i64_in _ (by omega)
  obtain ⟨M, hM⟩ : ∃ M, T.dur kind k n - j = M := ⟨_, rfl⟩
  rw [hM] at HKK
  have i2 : IntKind.i64.wrap ((T.dur kind k n : Int) - j) = M := by rw [IntWalk.i64_in _ (by omega)]; omega
  generalize T.dur kind k n = U at *
  have hMb : M ≤ 120 := by omega
  have hMa : T.first + k + j + M ≤ 150 := by omega
  clear hz hk hd hV hK hD hM
  go_enter Try.func53, Try.ntmps53
  go_wp2_with (first | (go_at_call 213; (with_reducible refine (HC.out _ _ (hv'.up (by repeat' (first | (with_reducible exact Up.refl _) | (with_reducible assumption) | (with_reducible refine Up.alloc ?_ _) | (with_reducible refine Up.drew ?_) | (with_reducible refine Up.grow ?_ _) | (with_reducible refine Up.setCell ?_ (by (try simp); (try omega)) _))))).mono ?_); rintro e w' ⟨rfl, hb⟩; first | (obtain ⟨x, rfl⟩ := Grow.on x hb) | (obtain ⟨x, rfl⟩ := Grow.mk' hb)) | (go_at_call 206; (with_reducible refine (HF.out _ _ (hv'.up (by repeat' (first | (with_reducible exact Up.refl _) | (with_reducible assumption) | (with_reducible refine Up.alloc ?_ _) | (with_reducible refine Up.drew ?_) | (with_reducible refine Up.grow ?_ _) | (with_reducible refine Up.setCell ?_ (by (try simp); (try omega)) _))))).mono ?_); rintro e w' ⟨rfl, hb⟩; first | (obtain ⟨x, rfl⟩ := Grow.on x hb) | (obtain ⟨x, rfl⟩ := Grow.mk' hb)) | (go_at_call 198; (with_reducible refine (HD.out _ _ (ht.up (by repeat' (first | (with_reducible exact Up.refl _) | (with_reducible assumption) | (with_reducible refine Up.alloc ?_ _) | (with_reducible refine Up.drew ?_) | (with_reducible refine Up.grow ?_ _) | (with_reducible refine Up.setCell ?_ (by (try simp); (try omega)) _))))).mono ?_); rintro e w' ⟨rfl, hb⟩; first | (obtain ⟨x, rfl⟩ := Grow.on x hb) | (obtain ⟨x, rfl⟩ := Grow.mk' hb)) | (go_at_call 205; (with_reducible refine (HU.out _ _ (hv'.up (by repeat' (first | (with_reducible exact Up.refl _) | (with_reducible assumption) | (with_reducible refine Up.alloc ?_ _) | (with_reducible refine Up.drew ?_) | (with_reducible refine Up.grow ?_ _) | (with_reducible refine Up.setCell ?_ (by (try simp); (try omega)) _))))).mono ?_); rintro e w' ⟨rfl, hb⟩; first | (obtain ⟨x, rfl⟩ := Grow.on x hb) | (obtain ⟨x, rfl⟩ := Grow.mk' hb)) | (go_at_call 218; (with_reducible refine (s_In _ _ _ _).mono ?_); rintro e w' ⟨rfl, rfl⟩) | (go_at_call 227; (with_reducible refine (i_In _ _ _ _).mono ?_); rintro e w' ⟨rfl, rfl⟩) | (go_at_call 287; (with_reducible refine (s_Rate _ _).mono ?_); rintro e w' ⟨rfl, rfl⟩) | (go_at_call 248; (with_reducible refine (i_Rate _ _).mono ?_); rintro e w' ⟨rfl, rfl⟩) | (go_at_call 323; (with_reducible refine (i_Years _ _).mono ?_); rintro e w' ⟨rfl, rfl⟩) | (go_at_call 292; (with_reducible refine (s_Amount6 _ _).mono ?_); rintro e w' ⟨rfl, rfl⟩) | (go_at_call 226; (with_reducible refine (s_Sum7 _ _).mono ?_); rintro e w' ⟨rfl, rfl⟩) | ((first | with_reducible refine wp_region_in x (by kernel_rfl) (by kernel_rfl) ?_ | with_reducible refine wp_region_here (by kernel_rfl) (by kernel_rfl) ?_); (repeat (go_big_quiet_step ((first | (go_at_call 213; with_reducible exact Ret.grow _ (HC.out _ _ (hv'.up (by repeat' (first | (with_reducible exact Up.refl _) | (with_reducible assumption) | (with_reducible refine Up.alloc ?_ _) | (with_reducible refine Up.drew ?_) | (with_reducible refine Up.grow ?_ _) | (with_reducible refine Up.setCell ?_ (by (try simp); (try omega)) _)))))) | (go_at_call 206; with_reducible exact Ret.grow _ (HF.out _ _ (hv'.up (by repeat' (first | (with_reducible exact Up.refl _) | (with_reducible assumption) | (with_reducible refine Up.alloc ?_ _) | (with_reducible refine Up.drew ?_) | (with_reducible refine Up.grow ?_ _) | (with_reducible refine Up.setCell ?_ (by (try simp); (try omega)) _)))))) | (go_at_call 198; with_reducible exact Ret.grow _ (HD.out _ _ (ht.up (by repeat' (first | (with_reducible exact Up.refl _) | (with_reducible assumption) | (with_reducible refine Up.alloc ?_ _) | (with_reducible refine Up.drew ?_) | (with_reducible refine Up.grow ?_ _) | (with_reducible refine Up.setCell ?_ (by (try simp); (try omega)) _)))))) | (go_at_call 205; with_reducible exact Ret.grow _ (HU.out _ _ (hv'.up (by repeat' (first | (with_reducible exact Up.refl _) | (with_reducible assumption) | (with_reducible refine Up.alloc ?_ _) | (with_reducible refine Up.drew ?_) | (with_reducible refine Up.grow ?_ _) | (with_reducible refine Up.setCell ?_ (by (try simp); (try omega)) _)))))) | (go_at_call 218; with_reducible exact Ret.same _ (s_In _ _ _ _)) | (go_at_call 227; with_reducible exact Ret.same _ (i_In _ _ _ _)) | (go_at_call 287; with_reducible exact Ret.same _ (s_Rate _ _)) | (go_at_call 248; with_reducible exact Ret.same _ (i_Rate _ _)) | (go_at_call 323; with_reducible exact Ret.same _ (i_Years _ _)) | (go_at_call 292; with_reducible exact Ret.same _ (s_Amount6 _ _)) | (go_at_call 226; with_reducible exact Ret.same _ (s_Sum7 _ _)))))); refine wpQuiet_nil ?_; intro w' hw'; obtain ⟨x, rfl⟩ := hw'))
  go_loopw [11] (fun i wr => ∃ (y : Nat) (z : Grow ((w.alloc (.cells #[.int .i64 T.first, .slice A T.n c, .int .i64 r] 42)).alloc (.cells #[.int .i64 (kind), .int .i64 (T.first + k), .int .i64 (n), .int .i64 (m), .int .i64 (ld)] 44))), y ≤ M ∧ i = .int .i64 y ∧ wr = z.to ∧ Hid (ky (kyP T r (k + j) m V) y = K)) (fun i _ => (intOf i).toNat)
  case atStart => exact ⟨M, x, by omega, rfl, rfl, HKK⟩
  case round =>
    clear HKK
    obtain ⟨y, x, hy, rfl, rfl, HKK⟩ := hrel
    by_cases h0 : y = 0
    · subst h0
      have E := Lib.hid (show K = 0 from HKK.out.symm)
      go_wp2_with ((first | with_reducible refine wp_region_in x (by kernel_rfl) (by kernel_rfl) ?_ | with_reducible refine wp_region_here (by kernel_rfl) (by kernel_rfl) ?_); (repeat (go_big_quiet_step ((fail)))); refine wpQuiet_nil ?_; intro w' hw'; obtain ⟨x, rfl⟩ := hw')
      go_ret2
      exact ⟨by rw [E.out]; rfl, (by repeat' (first | (with_reducible exact Up.refl _) | (with_reducible assumption) | (with_reducible refine Up.alloc ?_ _) | (with_reducible refine Up.drew ?_) | (with_reducible refine Up.grow ?_ _) | (with_reducible refine Up.setCell ?_ (by (try simp); (try omega)) _)))⟩
    · obtain ⟨y, rfl⟩ : ∃ y', y = y' + 1 := ⟨y - 1, by omega⟩
      have hTT := HTP.out (y + 1) (by omega)
      rw [show (((y + 1 : Nat) : Int)) = (y : Int) + 1 from by omega] at hTT
      have HT := Lib.hid hTT
      have HU1 := HUP.out (y + 1)
      have e1 := HKK.out
      rw [ky_succ] at e1
      unfold kyP at e1
      generalize up m (T.top r 1 (k + j) (y + 1)) (T.D r (k + j)) = Q at *
      replace HU1 := Lib.hid HU1
      have i3 : IntKind.i64.wrap ((y : Int) + 1 - 1) = y := by rw [IntWalk.i64_in _ (by omega)]; omega
      have hpos : (0 : Int) < (y : Int) + 1 := by omega
      clear hTT
      by_cases hq : V < Q
      · rw [if_neg (by simp; omega)] at e1
        have E := Lib.hid e1
        clear e1
        go_wp2_with (first | (go_at_call 214; (with_reducible refine (HT.out _ _ (ht.up (by repeat' (first | (with_reducible exact Up.refl _) | (with_reducible assumption) | (with_reducible refine Up.alloc ?_ _) | (with_reducible refine Up.drew ?_) | (with_reducible refine Up.grow ?_ _) | (with_reducible refine Up.setCell ?_ (by (try simp); (try omega)) _))))).mono ?_); rintro e w' ⟨rfl, hb⟩; first | (obtain ⟨x, rfl⟩ := Grow.on x hb) | (obtain ⟨x, rfl⟩ := Grow.mk' hb)) | (go_at_call 196; (with_reducible refine (HU1.out _).mono ?_); rintro e w' ⟨rfl, rfl⟩) | (go_at_call 218; (with_reducible refine (s_In _ _ _ _).mono ?_); rintro e w' ⟨rfl, rfl⟩) | (go_at_call 227; (with_reducible refine (i_In _ _ _ _).mono ?_); rintro e w' ⟨rfl, rfl⟩) | (go_at_call 287; (with_reducible refine (s_Rate _ _).mono ?_); rintro e w' ⟨rfl, rfl⟩) | (go_at_call 248; (with_reducible refine (i_Rate _ _).mono ?_); rintro e w' ⟨rfl, rfl⟩) | (go_at_call 323; (with_reducible refine (i_Years _ _).mono ?_); rintro e w' ⟨rfl, rfl⟩) | (go_at_call 292; (with_reducible refine (s_Amount6 _ _).mono ?_); rintro e w' ⟨rfl, rfl⟩) | (go_at_call 226; (with_reducible refine (s_Sum7 _ _).mono ?_); rintro e w' ⟨rfl, rfl⟩) | ((first | with_reducible refine wp_region_in x (by kernel_rfl) (by kernel_rfl) ?_ | with_reducible refine wp_region_here (by kernel_rfl) (by kernel_rfl) ?_); (repeat (go_big_quiet_step ((first | (go_at_call 214; with_reducible exact Ret.grow _ (HT.out _ _ (ht.up (by repeat' (first | (with_reducible exact Up.refl _) | (with_reducible assumption) | (with_reducible refine Up.alloc ?_ _) | (with_reducible refine Up.drew ?_) | (with_reducible refine Up.grow ?_ _) | (with_reducible refine Up.setCell ?_ (by (try simp); (try omega)) _)))))) | (go_at_call 196; with_reducible exact Ret.same _ (HU1.out _)) | (go_at_call 218; with_reducible exact Ret.same _ (s_In _ _ _ _)) | (go_at_call 227; with_reducible exact Ret.same _ (i_In _ _ _ _)) | (go_at_call 287; with_reducible exact Ret.same _ (s_Rate _ _)) | (go_at_call 248; with_reducible exact Ret.same _ (i_Rate _ _)) | (go_at_call 323; with_reducible exact Ret.same _ (i_Years _ _)) | (go_at_call 292; with_reducible exact Ret.same _ (s_Amount6 _ _)) | (go_at_call 226; with_reducible exact Ret.same _ (s_Sum7 _ _)))))); refine wpQuiet_nil ?_; intro w' hw'; obtain ⟨x, rfl⟩ := hw'))
        go_roundw
        case rel => exact ⟨y, ⟨x.to, show Up _ x.to from (by repeat' (first | (with_reducible exact Up.refl _) | (with_reducible assumption) | (with_reducible refine Up.alloc ?_ _) | (with_reducible refine Up.drew ?_) | (with_reducible refine Up.grow ?_ _) | (with_reducible refine Up.setCell ?_ (by (try simp); (try omega)) _)))⟩, by omega, by go_num, rfl, E⟩
        case measure => simp [intOf]
      · rw [if_pos (by simp; omega)] at e1
        have E := Lib.hid e1
        clear e1
        go_wp2_with (first | (go_at_call 214; (with_reducible refine (HT.out _ _ (ht.up (by repeat' (first | (with_reducible exact Up.refl _) | (with_reducible assumption) | (with_reducible refine Up.alloc ?_ _) | (with_reducible refine Up.drew ?_) | (with_reducible refine Up.grow ?_ _) | (with_reducible refine Up.setCell ?_ (by (try simp); (try omega)) _))))).mono ?_); rintro e w' ⟨rfl, hb⟩; first | (obtain ⟨x, rfl⟩ := Grow.on x hb) | (obtain ⟨x, rfl⟩ := Grow.mk' hb)) | (go_at_call 196; (with_reducible refine (HU1.out _).mono ?_); rintro e w' ⟨rfl, rfl⟩) | (go_at_call 218; (with_reducible refine (s_In _ _ _ _).mono ?_); rintro e w' ⟨rfl, rfl⟩) | (go_at_call 227; (with_reducible refine (i_In _ _ _ _).mono ?_); rintro e w' ⟨rfl, rfl⟩) | (go_at_call 287; (with_reducible refine (s_Rate _ _).mono ?_); rintro e w' ⟨rfl, rfl⟩) | (go_at_call 248; (with_reducible refine (i_Rate _ _).mono ?_); rintro e w' ⟨rfl, rfl⟩) | (go_at_call 323; (with_reducible refine (i_Years _ _).mono ?_); rintro e w' ⟨rfl, rfl⟩) | (go_at_call 292; (with_reducible refine (s_Amount6 _ _).mono ?_); rintro e w' ⟨rfl, rfl⟩) | (go_at_call 226; (with_reducible refine (s_Sum7 _ _).mono ?_); rintro e w' ⟨rfl, rfl⟩) | ((first | with_reducible refine wp_region_in x (by kernel_rfl) (by kernel_rfl) ?_ | with_reducible refine wp_region_here (by kernel_rfl) (by kernel_rfl) ?_); (repeat (go_big_quiet_step ((first | (go_at_call 214; with_reducible exact Ret.grow _ (HT.out _ _ (ht.up (by repeat' (first | (with_reducible exact Up.refl _) | (with_reducible assumption) | (with_reducible refine Up.alloc ?_ _) | (with_reducible refine Up.drew ?_) | (with_reducible refine Up.grow ?_ _) | (with_reducible refine Up.setCell ?_ (by (try simp); (try omega)) _)))))) | (go_at_call 196; with_reducible exact Ret.same _ (HU1.out _)) | (go_at_call 218; with_reducible exact Ret.same _ (s_In _ _ _ _)) | (go_at_call 227; with_reducible exact Ret.same _ (i_In _ _ _ _)) | (go_at_call 287; with_reducible exact Ret.same _ (s_Rate _ _)) | (go_at_call 248; with_reducible exact Ret.same _ (i_Rate _ _)) | (go_at_call 323; with_reducible exact Ret.same _ (i_Years _ _)) | (go_at_call 292; with_reducible exact Ret.same _ (s_Amount6 _ _)) | (go_at_call 226; with_reducible exact Ret.same _ (s_Sum7 _ _)))))); refine wpQuiet_nil ?_; intro w' hw'; obtain ⟨x, rfl⟩ := hw'))
        go_ret2
        exact ⟨by rw [← E.out]; go_num, (by repeat' (first | (with_reducible exact Up.refl _) | (with_reducible assumption) | (with_reducible refine Up.alloc ?_ _) | (with_reducible refine Up.drew ?_) | (with_reducible refine Up.grow ?_ _) | (with_reducible refine Up.setCell ?_ (by (try simp); (try omega)) _)))⟩
end Go.Proofs.Ytklnikaakpebnaa
