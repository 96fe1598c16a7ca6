/- Contracts of the program's annuities. Condition: the slice reads as the table's numbers. -/
import Derived.Test.YtdeoampkbbbleaaChk
import Derived.Test.YtdeoampkbbbleaaIMd
import Derived.Test.YtdeoampkbbbleaaSAnn2
namespace Go.Proofs.Ytdeoampkbbbleaa
open Go.RowKit Pu

section
variable {T : Tab} (hT : T.Ok) {r : Int} (h0 : 0 ≤ r) {k n : Nat} (hd : 1 ≤ T.D r k) {m : Int} (hm : 1 ≤ m) (hm2 : m ≤ 1000000)
include hT h0 hd hm hm2
theorem i_PricedN (w : World) : Calls Try.prog 159 #[.int .i64 m, .int .i64 (T.N r (k + n)), .int .i64 (T.D r k)] w (Ret w (.int .i64 (up m (T.N r (k + n)) (T.D r k)))) := by
  have b2 := hT.N_bd h0 k
  have b3 := hT.N_max h0 (k + n)
  have b4 := hT.D_bd h0 k
  have b6 := hT.N_mono h0 k n
  have b5 := qd_200 (a := m) (b := T.N r (k + n)) (m := 1000000) (by omega) (by omega) (by omega) hd (by omega)
  exact i_Priced _ _ _ (by omega) (by omega) (by omega) (by omega) (by omega) (by omega) (by omega) w
theorem i_PricedT (w : World) : Calls Try.prog 159 #[.int .i64 m, .int .i64 (T.N r k - T.N r (k + n)), .int .i64 (T.D r k)] w (Ret w (.int .i64 (up m (T.N r k - T.N r (k + n)) (T.D r k)))) := by
  have b2 := hT.N_bd h0 k
  have b3 := hT.N_max h0 k
  have b7 := hT.N_max h0 (k + n)
  have b4 := hT.D_bd h0 k
  have b6 := hT.N_mono h0 k n
  have b5 := qd_200 (a := m) (b := T.N r k - T.N r (k + n)) (m := 1000000) (by omega) (by omega) (by omega) hd (by omega)
  exact i_Priced _ _ _ (by omega) (by omega) (by omega) (by omega) (by omega) (by omega) (by omega) w
end

set_option maxRecDepth 100000 in
theorem i_Late (T : Tab) (r age m n : Int) (v : Value) (w : World) (hv : TabAt w T v) :
    Calls Try.prog 103 #[v, .int .i64 r, .int .i64 age, .int .i64 m, .int .i64 n] w (RetQ w (termC T r age m n) (lateV T r age m n)) := by
  have hv' := hv
  obtain ⟨A, c, rfl, hc, hm, _, hI⟩ := hv
  have HC := i_ChkA T r age m n
  unfold termC
  by_cases hz : code6 T r age (inR m 1 1000000) n = 0
  case neg =>
    rw [RetQ_bad hz]
    have HC : ∀ v w, TabAt w T v → Calls Try.prog 225 #[v, .int .i64 r, .int .i64 age, .int .i64 m, .int .i64 n] w (Ret w (.tuple #[col0, col0, .int .i64 (code6 T r age (inR m 1 1000000) n)])) := fun v w h => by have := HC v w h; rwa [RetChk_bad hz] at this
    unfold col0 at HC
    replace HC := Lib.hid HC
    (have hz1 : ((code6 T r age (inR m 1 1000000) n) != 0) = true := (by simpa using hz)); (have hz2 : ((code6 T r age (inR m 1 1000000) n) == 0) = false := (by simpa using hz))
    clear hz
    go_enter Try.func103, Try.ntmps103
    go_wp2_with (first | (go_at_call 225; (with_reducible refine (HC.out _ _ (hv'.up (by repeat' (first | (with_reducible exact Up.refl _) | (with_reducible assumption) | (with_reducible refine Up.alloc ?_ _) | (with_reducible refine Up.drew ?_) | (with_reducible refine Up.grow ?_ _) | (with_reducible refine Up.setCell ?_ (by (try simp); (try omega)) _))))).mono ?_); rintro e w' ⟨rfl, hb⟩; first | (obtain ⟨x, rfl⟩ := Grow.on x hb) | (obtain ⟨x, rfl⟩ := Grow.mk' hb)) | (go_at_call 142; (with_reducible refine (s_In _ _ _ _).mono ?_); rintro e w' ⟨rfl, rfl⟩) | (go_at_call 186; (with_reducible refine (i_In _ _ _ _).mono ?_); rintro e w' ⟨rfl, rfl⟩) | (go_at_call 222; (with_reducible refine (s_Rate _ _).mono ?_); rintro e w' ⟨rfl, rfl⟩) | (go_at_call 165; (with_reducible refine (i_Rate _ _).mono ?_); rintro e w' ⟨rfl, rfl⟩) | (go_at_call 262; (with_reducible refine (i_Years _ _).mono ?_); rintro e w' ⟨rfl, rfl⟩) | (go_at_call 227; (with_reducible refine (s_Amount6 _ _).mono ?_); rintro e w' ⟨rfl, rfl⟩) | (go_at_call 236; (with_reducible refine (s_Sum7 _ _).mono ?_); rintro e w' ⟨rfl, rfl⟩) | ((first | with_reducible refine wp_region_in x (by kernel_rfl) (by kernel_rfl) ?_ | with_reducible refine wp_region_here (by kernel_rfl) (by kernel_rfl) ?_); (repeat (go_big_quiet_step ((first | (go_at_call 225; with_reducible exact Ret.grow _ (HC.out _ _ (hv'.up (by repeat' (first | (with_reducible exact Up.refl _) | (with_reducible assumption) | (with_reducible refine Up.alloc ?_ _) | (with_reducible refine Up.drew ?_) | (with_reducible refine Up.grow ?_ _) | (with_reducible refine Up.setCell ?_ (by (try simp); (try omega)) _)))))) | (go_at_call 142; with_reducible exact Ret.same _ (s_In _ _ _ _)) | (go_at_call 186; with_reducible exact Ret.same _ (i_In _ _ _ _)) | (go_at_call 222; with_reducible exact Ret.same _ (s_Rate _ _)) | (go_at_call 165; with_reducible exact Ret.same _ (i_Rate _ _)) | (go_at_call 262; with_reducible exact Ret.same _ (i_Years _ _)) | (go_at_call 227; with_reducible exact Ret.same _ (s_Amount6 _ _)) | (go_at_call 236; with_reducible exact Ret.same _ (s_Sum7 _ _)))))); refine wpQuiet_nil ?_; intro w' hw'; obtain ⟨x, rfl⟩ := hw'))
    go_ret2
    exact ⟨rfl, (by repeat' (first | (with_reducible exact Up.refl _) | (with_reducible assumption) | (with_reducible refine Up.alloc ?_ _) | (with_reducible refine Up.drew ?_) | (with_reducible refine Up.grow ?_ _) | (with_reducible refine Up.setCell ?_ (by (try simp); (try omega)) _)))⟩
  obtain ⟨hT, h0, h1, hm1, k, n, rfl, rfl, hn, hl, hd⟩ := code6_ok hz
  rw [hz] at HC ⊢
  have HC : ∀ v w, TabAt w T v → Calls Try.prog 225 #[v, .int .i64 r, .int .i64 (T.first + k), .int .i64 m, .int .i64 n] w (Ret w (.tuple #[colV T r k, colV T r (k + n), .int .i64 0])) := fun v w h => by have := HC v w h; rwa [RetChk_ok, kk, kmm] at this
  rw [RetQ_ok]
  unfold lateV
  rw [kk, kmm]
  unfold colV at HC
  have b1 := inR_true.1 hm1
  have HP := Lib.hid (i_PricedN hT h0 hd (n := n) b1.1 b1.2)
  replace HC := Lib.hid HC
  clear hz hd hm1
  generalize up m (T.N r (k + n)) (T.D r k) = U at *
  generalize T.N r (k + n) = N2 at *
  generalize T.D r k = D at *
  go_enter Try.func103, Try.ntmps103
  go_wp2_with (first | (go_at_call 225; (with_reducible refine (HC.out _ _ (hv'.up (by repeat' (first | (with_reducible exact Up.refl _) | (with_reducible assumption) | (with_reducible refine Up.alloc ?_ _) | (with_reducible refine Up.drew ?_) | (with_reducible refine Up.grow ?_ _) | (with_reducible refine Up.setCell ?_ (by (try simp); (try omega)) _))))).mono ?_); rintro e w' ⟨rfl, hb⟩; first | (obtain ⟨x, rfl⟩ := Grow.on x hb) | (obtain ⟨x, rfl⟩ := Grow.mk' hb)) | (go_at_call 159; (with_reducible refine (HP.out _).mono ?_); rintro e w' ⟨rfl, hb⟩; first | (obtain ⟨x, rfl⟩ := Grow.on x hb) | (obtain ⟨x, rfl⟩ := Grow.mk' hb)) | (go_at_call 142; (with_reducible refine (s_In _ _ _ _).mono ?_); rintro e w' ⟨rfl, rfl⟩) | (go_at_call 186; (with_reducible refine (i_In _ _ _ _).mono ?_); rintro e w' ⟨rfl, rfl⟩) | (go_at_call 222; (with_reducible refine (s_Rate _ _).mono ?_); rintro e w' ⟨rfl, rfl⟩) | (go_at_call 165; (with_reducible refine (i_Rate _ _).mono ?_); rintro e w' ⟨rfl, rfl⟩) | (go_at_call 262; (with_reducible refine (i_Years _ _).mono ?_); rintro e w' ⟨rfl, rfl⟩) | (go_at_call 227; (with_reducible refine (s_Amount6 _ _).mono ?_); rintro e w' ⟨rfl, rfl⟩) | (go_at_call 236; (with_reducible refine (s_Sum7 _ _).mono ?_); rintro e w' ⟨rfl, rfl⟩) | ((first | with_reducible refine wp_region_in x (by kernel_rfl) (by kernel_rfl) ?_ | with_reducible refine wp_region_here (by kernel_rfl) (by kernel_rfl) ?_); (repeat (go_big_quiet_step ((first | (go_at_call 225; with_reducible exact Ret.grow _ (HC.out _ _ (hv'.up (by repeat' (first | (with_reducible exact Up.refl _) | (with_reducible assumption) | (with_reducible refine Up.alloc ?_ _) | (with_reducible refine Up.drew ?_) | (with_reducible refine Up.grow ?_ _) | (with_reducible refine Up.setCell ?_ (by (try simp); (try omega)) _)))))) | (go_at_call 159; with_reducible exact Ret.grow _ (HP.out _)) | (go_at_call 142; with_reducible exact Ret.same _ (s_In _ _ _ _)) | (go_at_call 186; with_reducible exact Ret.same _ (i_In _ _ _ _)) | (go_at_call 222; with_reducible exact Ret.same _ (s_Rate _ _)) | (go_at_call 165; with_reducible exact Ret.same _ (i_Rate _ _)) | (go_at_call 262; with_reducible exact Ret.same _ (i_Years _ _)) | (go_at_call 227; with_reducible exact Ret.same _ (s_Amount6 _ _)) | (go_at_call 236; with_reducible exact Ret.same _ (s_Sum7 _ _)))))); refine wpQuiet_nil ?_; intro w' hw'; obtain ⟨x, rfl⟩ := hw'))
  go_ret2
  exact ⟨rfl, (by repeat' (first | (with_reducible exact Up.refl _) | (with_reducible assumption) | (with_reducible refine Up.alloc ?_ _) | (with_reducible refine Up.drew ?_) | (with_reducible refine Up.grow ?_ _) | (with_reducible refine Up.setCell ?_ (by (try simp); (try omega)) _)))⟩
set_option maxRecDepth 100000 in
theorem i_Term (T : Tab) (r age m n : Int) (v : Value) (w : World) (hv : TabAt w T v) :
    Calls Try.prog 101 #[v, .int .i64 r, .int .i64 age, .int .i64 m, .int .i64 n] w (RetQ w (termC T r age m n) (termV T r age m n)) := by
  have hv' := hv
  obtain ⟨A, c, rfl, hc, hm, _, hI⟩ := hv
  have HC := i_ChkA T r age m n
  unfold termC
  by_cases hz : code6 T r age (inR m 1 1000000) n = 0
  case neg =>
    rw [RetQ_bad hz]
    have HC : ∀ v w, TabAt w T v → Calls Try.prog 225 #[v, .int .i64 r, .int .i64 age, .int .i64 m, .int .i64 n] w (Ret w (.tuple #[col0, col0, .int .i64 (code6 T r age (inR m 1 1000000) n)])) := fun v w h => by have := HC v w h; rwa [RetChk_bad hz] at this
    unfold col0 at HC
    replace HC := Lib.hid HC
    (have hz1 : ((code6 T r age (inR m 1 1000000) n) != 0) = true := (by simpa using hz)); (have hz2 : ((code6 T r age (inR m 1 1000000) n) == 0) = false := (by simpa using hz))
    clear hz
    go_enter Try.func101, Try.ntmps101
    go_wp2_with (first | (go_at_call 225; (with_reducible refine (HC.out _ _ (hv'.up (by repeat' (first | (with_reducible exact Up.refl _) | (with_reducible assumption) | (with_reducible refine Up.alloc ?_ _) | (with_reducible refine Up.drew ?_) | (with_reducible refine Up.grow ?_ _) | (with_reducible refine Up.setCell ?_ (by (try simp); (try omega)) _))))).mono ?_); rintro e w' ⟨rfl, hb⟩; first | (obtain ⟨x, rfl⟩ := Grow.on x hb) | (obtain ⟨x, rfl⟩ := Grow.mk' hb)) | (go_at_call 142; (with_reducible refine (s_In _ _ _ _).mono ?_); rintro e w' ⟨rfl, rfl⟩) | (go_at_call 186; (with_reducible refine (i_In _ _ _ _).mono ?_); rintro e w' ⟨rfl, rfl⟩) | (go_at_call 222; (with_reducible refine (s_Rate _ _).mono ?_); rintro e w' ⟨rfl, rfl⟩) | (go_at_call 165; (with_reducible refine (i_Rate _ _).mono ?_); rintro e w' ⟨rfl, rfl⟩) | (go_at_call 262; (with_reducible refine (i_Years _ _).mono ?_); rintro e w' ⟨rfl, rfl⟩) | (go_at_call 227; (with_reducible refine (s_Amount6 _ _).mono ?_); rintro e w' ⟨rfl, rfl⟩) | (go_at_call 236; (with_reducible refine (s_Sum7 _ _).mono ?_); rintro e w' ⟨rfl, rfl⟩) | ((first | with_reducible refine wp_region_in x (by kernel_rfl) (by kernel_rfl) ?_ | with_reducible refine wp_region_here (by kernel_rfl) (by kernel_rfl) ?_); (repeat (go_big_quiet_step ((first | (go_at_call 225; with_reducible exact Ret.grow _ (HC.out _ _ (hv'.up (by repeat' (first | (with_reducible exact Up.refl _) | (with_reducible assumption) | (with_reducible refine Up.alloc ?_ _) | (with_reducible refine Up.drew ?_) | (with_reducible refine Up.grow ?_ _) | (with_reducible refine Up.setCell ?_ (by (try simp); (try omega)) _)))))) | (go_at_call 142; with_reducible exact Ret.same _ (s_In _ _ _ _)) | (go_at_call 186; with_reducible exact Ret.same _ (i_In _ _ _ _)) | (go_at_call 222; with_reducible exact Ret.same _ (s_Rate _ _)) | (go_at_call 165; with_reducible exact Ret.same _ (i_Rate _ _)) | (go_at_call 262; with_reducible exact Ret.same _ (i_Years _ _)) | (go_at_call 227; with_reducible exact Ret.same _ (s_Amount6 _ _)) | (go_at_call 236; with_reducible exact Ret.same _ (s_Sum7 _ _)))))); refine wpQuiet_nil ?_; intro w' hw'; obtain ⟨x, rfl⟩ := hw'))
    go_ret2
    exact ⟨rfl, (by repeat' (first | (with_reducible exact Up.refl _) | (with_reducible assumption) | (with_reducible refine Up.alloc ?_ _) | (with_reducible refine Up.drew ?_) | (with_reducible refine Up.grow ?_ _) | (with_reducible refine Up.setCell ?_ (by (try simp); (try omega)) _)))⟩
  obtain ⟨hT, h0, h1, hm1, k, n, rfl, rfl, hn, hl, hd⟩ := code6_ok hz
  rw [hz] at HC ⊢
  have HC : ∀ v w, TabAt w T v → Calls Try.prog 225 #[v, .int .i64 r, .int .i64 (T.first + k), .int .i64 m, .int .i64 n] w (Ret w (.tuple #[colV T r k, colV T r (k + n), .int .i64 0])) := fun v w h => by have := HC v w h; rwa [RetChk_ok, kk, kmm] at this
  rw [RetQ_ok]
  unfold termV
  rw [kk, kmm]
  unfold colV at HC
  have b1 := inR_true.1 hm1
  have HP := Lib.hid (i_PricedT hT h0 hd (n := n) b1.1 b1.2)
  replace HC := Lib.hid HC
  clear hz hd hm1
  have b3 := hT.N_max h0 k
  have b7 := hT.N_max h0 (k + n)
  generalize up m (T.N r k - T.N r (k + n)) (T.D r k) = U at *
  generalize T.N r k = N at *
  generalize T.N r (k + n) = N2 at *
  generalize T.D r k = D at *
  go_enter Try.func101, Try.ntmps101
  go_wp2_with (first | (go_at_call 225; (with_reducible refine (HC.out _ _ (hv'.up (by repeat' (first | (with_reducible exact Up.refl _) | (with_reducible assumption) | (with_reducible refine Up.alloc ?_ _) | (with_reducible refine Up.drew ?_) | (with_reducible refine Up.grow ?_ _) | (with_reducible refine Up.setCell ?_ (by (try simp); (try omega)) _))))).mono ?_); rintro e w' ⟨rfl, hb⟩; first | (obtain ⟨x, rfl⟩ := Grow.on x hb) | (obtain ⟨x, rfl⟩ := Grow.mk' hb)) | (go_at_call 159; (with_reducible refine (HP.out _).mono ?_); rintro e w' ⟨rfl, hb⟩; first | (obtain ⟨x, rfl⟩ := Grow.on x hb) | (obtain ⟨x, rfl⟩ := Grow.mk' hb)) | (go_at_call 142; (with_reducible refine (s_In _ _ _ _).mono ?_); rintro e w' ⟨rfl, rfl⟩) | (go_at_call 186; (with_reducible refine (i_In _ _ _ _).mono ?_); rintro e w' ⟨rfl, rfl⟩) | (go_at_call 222; (with_reducible refine (s_Rate _ _).mono ?_); rintro e w' ⟨rfl, rfl⟩) | (go_at_call 165; (with_reducible refine (i_Rate _ _).mono ?_); rintro e w' ⟨rfl, rfl⟩) | (go_at_call 262; (with_reducible refine (i_Years _ _).mono ?_); rintro e w' ⟨rfl, rfl⟩) | (go_at_call 227; (with_reducible refine (s_Amount6 _ _).mono ?_); rintro e w' ⟨rfl, rfl⟩) | (go_at_call 236; (with_reducible refine (s_Sum7 _ _).mono ?_); rintro e w' ⟨rfl, rfl⟩) | ((first | with_reducible refine wp_region_in x (by kernel_rfl) (by kernel_rfl) ?_ | with_reducible refine wp_region_here (by kernel_rfl) (by kernel_rfl) ?_); (repeat (go_big_quiet_step ((first | (go_at_call 225; with_reducible exact Ret.grow _ (HC.out _ _ (hv'.up (by repeat' (first | (with_reducible exact Up.refl _) | (with_reducible assumption) | (with_reducible refine Up.alloc ?_ _) | (with_reducible refine Up.drew ?_) | (with_reducible refine Up.grow ?_ _) | (with_reducible refine Up.setCell ?_ (by (try simp); (try omega)) _)))))) | (go_at_call 159; with_reducible exact Ret.grow _ (HP.out _)) | (go_at_call 142; with_reducible exact Ret.same _ (s_In _ _ _ _)) | (go_at_call 186; with_reducible exact Ret.same _ (i_In _ _ _ _)) | (go_at_call 222; with_reducible exact Ret.same _ (s_Rate _ _)) | (go_at_call 165; with_reducible exact Ret.same _ (i_Rate _ _)) | (go_at_call 262; with_reducible exact Ret.same _ (i_Years _ _)) | (go_at_call 227; with_reducible exact Ret.same _ (s_Amount6 _ _)) | (go_at_call 236; with_reducible exact Ret.same _ (s_Sum7 _ _)))))); refine wpQuiet_nil ?_; intro w' hw'; obtain ⟨x, rfl⟩ := hw'))
  go_ret2
  exact ⟨rfl, (by repeat' (first | (with_reducible exact Up.refl _) | (with_reducible assumption) | (with_reducible refine Up.alloc ?_ _) | (with_reducible refine Up.drew ?_) | (with_reducible refine Up.grow ?_ _) | (with_reducible refine Up.setCell ?_ (by (try simp); (try omega)) _)))⟩
set_option maxRecDepth 100000 in
theorem i_Life (T : Tab) (r age m : Int) (v : Value) (w : World) (hv : TabAt w T v) :
    Calls Try.prog 107 #[v, .int .i64 r, .int .i64 age, .int .i64 m] w (RetQ w (lifeC T r age m) (lifeV T r age m)) := by
  have hv' := hv
  obtain ⟨A, c, rfl, hc, hm, _, hI⟩ := hv
  have e : RetQ w (lifeC T r age m) (lifeV T r age m) = RetQ w (termC T r age m 0) (lateV T r age m 0) := by unfold lifeC termC lifeV lateV; rw [Int.add_zero]
  rw [e]
  have HC : ∀ v w, TabAt w T v → Calls Try.prog 103 #[v, .int .i64 r, .int .i64 age, .int .i64 m, .int .i64 0] w (Ret w (.tuple #[.int .i64 (if termC T r age m 0 = 0 then lateV T r age m 0 else 0), .int .i64 (termC T r age m 0)])) := fun v w h => i_Late T r age m 0 v w h
  unfold RetQ
  replace HC := Lib.hid HC
  clear e
  generalize (if termC T r age m 0 = 0 then lateV T r age m 0 else 0) = q at *
  generalize termC T r age m 0 = code at *
  go_enter Try.func107, Try.ntmps107
  go_wp2_with (first | (go_at_call 103; (with_reducible refine (HC.out _ _ (hv'.up (by repeat' (first | (with_reducible exact Up.refl _) | (with_reducible assumption) | (with_reducible refine Up.alloc ?_ _) | (with_reducible refine Up.drew ?_) | (with_reducible refine Up.grow ?_ _) | (with_reducible refine Up.setCell ?_ (by (try simp); (try omega)) _))))).mono ?_); rintro e w' ⟨rfl, hb⟩; first | (obtain ⟨x, rfl⟩ := Grow.on x hb) | (obtain ⟨x, rfl⟩ := Grow.mk' hb)) | (go_at_call 142; (with_reducible refine (s_In _ _ _ _).mono ?_); rintro e w' ⟨rfl, rfl⟩) | (go_at_call 186; (with_reducible refine (i_In _ _ _ _).mono ?_); rintro e w' ⟨rfl, rfl⟩) | (go_at_call 222; (with_reducible refine (s_Rate _ _).mono ?_); rintro e w' ⟨rfl, rfl⟩) | (go_at_call 165; (with_reducible refine (i_Rate _ _).mono ?_); rintro e w' ⟨rfl, rfl⟩) | (go_at_call 262; (with_reducible refine (i_Years _ _).mono ?_); rintro e w' ⟨rfl, rfl⟩) | (go_at_call 227; (with_reducible refine (s_Amount6 _ _).mono ?_); rintro e w' ⟨rfl, rfl⟩) | (go_at_call 236; (with_reducible refine (s_Sum7 _ _).mono ?_); rintro e w' ⟨rfl, rfl⟩) | ((first | with_reducible refine wp_region_in x (by kernel_rfl) (by kernel_rfl) ?_ | with_reducible refine wp_region_here (by kernel_rfl) (by kernel_rfl) ?_); (repeat (go_big_quiet_step ((first | (go_at_call 103; with_reducible exact Ret.grow _ (HC.out _ _ (hv'.up (by repeat' (first | (with_reducible exact Up.refl _) | (with_reducible assumption) | (with_reducible refine Up.alloc ?_ _) | (with_reducible refine Up.drew ?_) | (with_reducible refine Up.grow ?_ _) | (with_reducible refine Up.setCell ?_ (by (try simp); (try omega)) _)))))) | (go_at_call 142; with_reducible exact Ret.same _ (s_In _ _ _ _)) | (go_at_call 186; with_reducible exact Ret.same _ (i_In _ _ _ _)) | (go_at_call 222; with_reducible exact Ret.same _ (s_Rate _ _)) | (go_at_call 165; with_reducible exact Ret.same _ (i_Rate _ _)) | (go_at_call 262; with_reducible exact Ret.same _ (i_Years _ _)) | (go_at_call 227; with_reducible exact Ret.same _ (s_Amount6 _ _)) | (go_at_call 236; with_reducible exact Ret.same _ (s_Sum7 _ _)))))); refine wpQuiet_nil ?_; intro w' hw'; obtain ⟨x, rfl⟩ := hw'))
  go_ret2
  exact ⟨rfl, (by repeat' (first | (with_reducible exact Up.refl _) | (with_reducible assumption) | (with_reducible refine Up.alloc ?_ _) | (with_reducible refine Up.drew ?_) | (with_reducible refine Up.grow ?_ _) | (with_reducible refine Up.setCell ?_ (by (try simp); (try omega)) _)))⟩
theorem i_TotalA (A : Option Addr) (n c : Nat) (g : Nat → Int) (M : Int) (hM : M ≤ 1000000000000) (hg : ∀ i, i < n → 0 ≤ g i ∧ g i ≤ M) (hn : n ≤ 1000000) (w : World) (hI : Ints w A n g) :
    Calls Try.prog 177 #[.slice A n c] w fun e w' => e = .returned (.int .i64 (S g 0 n)) ∧ w = w' := by
  have hS : ∀ k, k ≤ n → 0 ≤ S g 0 k ∧ S g 0 k ≤ 1000000000000000000 := fun k hk => by
    have h := S_bounds g 0 k M (fun j hj => by rw [Nat.zero_add]; exact hg j (by omega))
    refine ⟨h.1, Int.le_trans h.2 ?_⟩
    rcases Int.le_total 0 M with h0 | h0
    · have := Int.mul_le_mul (show (k : Int) ≤ 1000000 by omega) hM h0 (by omega); omega
    · have : (k : Int) * M ≤ 0 := Int.mul_nonpos_of_nonneg_of_nonpos (by omega) h0; omega
  have HS := Lib.hid hS
  have HG := Lib.hid hg
  clear hS hg
  go_enter Try.func177, Try.ntmps177
  go_wp2
  go_loop [3, 8] (fun s i => ∃ k : Nat, k ≤ n ∧ i = .int .i64 k ∧ s = .int .i64 (S g 0 k)) (fun _ i => n - (intOf i).toNat)
  case atStart => exact ⟨0, Nat.zero_le _, rfl, rfl⟩
  case round =>
    obtain ⟨k, hk, rfl, rfl⟩ := hrel
    by_cases hlt : k < n
    · obtain ⟨b, off, rfl, hlb, hc⟩ := hI k hlt
      have E : Hid (S g 0 (k + 1) = S g 0 k + g k) := Lib.hid (by rw [S_succ, Nat.zero_add])
      have b1 := HS.out k (by omega)
      have b2 := HS.out (k + 1) (by omega)
      rw [E.out] at b2
      go_wp2
      go_round
      case rel => exact ⟨k + 1, by omega, by go_num, by rw [E.out]⟩
      case measure => simp [intOf]; omega
    · go_wp2
      go_ret
      exact ⟨ret_int (by rw [show k = n from by omega]), rfl⟩

set_option maxRecDepth 100000 in
theorem i_Cert (r : Int) (h0 : 0 ≤ r) (h1 : r ≤ 200) (n : Nat) (hn : n ≤ 120) (w : World) :
    Calls Try.prog 229 #[.int .i64 r, .int .i64 n] w (Ret w (.tuple #[.int .i64 (cert r n), .int .i64 0])) := by
  have hr : inR r 0 200 = true := inR_true.2 ⟨h0, h1⟩
  have hy : inR n 0 120 = true := inR_true.2 ⟨by omega, by omega⟩
  have HT : Hid (∀ w g c, Ints w (some ⟨g, 0, none⟩) n (disc r) → Calls Try.prog 177 #[.slice (some ⟨g, 0, none⟩) n c] w fun e w' => e = .returned (.int .i64 (cert r n)) ∧ w = w') := Lib.hid fun w g c h => i_TotalA _ n c (disc r) 1000000000 (by omega) (fun i _ => disc_bd h0 i) (by omega) w h
  go_enter Try.func229, Try.ntmps229
  go_wp2_with (first | (go_at_call 142; refine (s_In _ _ _ _).mono ?_; rintro e w' ⟨rfl, rfl⟩) | (go_at_call 186; refine (i_In _ _ _ _).mono ?_; rintro e w' ⟨rfl, rfl⟩) | (go_at_call 222; refine (s_Rate _ _).mono ?_; rintro e w' ⟨rfl, rfl⟩) | (go_at_call 165; refine (i_Rate _ _).mono ?_; rintro e w' ⟨rfl, rfl⟩) | (go_at_call 262; refine (i_Years _ _).mono ?_; rintro e w' ⟨rfl, rfl⟩) | (go_at_call 227; refine (s_Amount6 _ _).mono ?_; rintro e w' ⟨rfl, rfl⟩) | (go_at_call 236; refine (s_Sum7 _ _).mono ?_; rintro e w' ⟨rfl, rfl⟩) | (go_at_call 258; refine (i_Discs r h0 h1 _).mono ?_; rintro e w5 ⟨v5, rfl, hb5, hown⟩; have hrd := hown.rd; obtain ⟨A5, c5, rfl, hc5, hm5, hA⟩ := hown.form; rw [discs_len] at hc5 hA ⊢; obtain ⟨g5, rfl, hg1, hg2, hg3, _⟩ := hA (by omega); have hints : Ints w5 (some ⟨g5, 0, none⟩) n (disc r) := (fun i hi => ⟨g5, 0, rfl, hg2, by rw [Nat.zero_add, hg3 i (by omega), discs_at r (by omega)]⟩); clear hrd hown hA hg3; have hn3 : n ≤ c5 := (by omega); have HI := Lib.hid hints; clear hints) | (go_at_call 177; refine (HT.out _ _ _ HI.out).mono ?_; rintro e w' ⟨rfl, rfl⟩))
  go_ret2
  exact ⟨rfl, (by repeat' (first | (with_reducible exact Up.refl _) | (with_reducible assumption) | (with_reducible refine Up.alloc ?_ _) | (with_reducible refine Up.drew ?_) | (with_reducible refine Up.grow ?_ _) | (with_reducible refine Up.setCell ?_ (by (try simp); (try omega)) _)))⟩

set_option maxRecDepth 100000 in
theorem i_Sure (T : Tab) (r age m n : Int) (v : Value) (w : World) (hv : TabAt w T v) :
    Calls Try.prog 105 #[v, .int .i64 r, .int .i64 age, .int .i64 m, .int .i64 n] w (RetQ w (termC T r age m n) (sureV T r age m n)) := by
  have hv' := hv
  obtain ⟨A, c, rfl, hc, hm, _, hI⟩ := hv
  have HC := i_Late T r age m n
  by_cases hz : termC T r age m n = 0
  case neg =>
    rw [RetQ_bad hz]
    have HC : ∀ v w, TabAt w T v → Calls Try.prog 103 #[v, .int .i64 r, .int .i64 age, .int .i64 m, .int .i64 n] w (Ret w (.tuple #[.int .i64 0, .int .i64 (termC T r age m n)])) := fun v w h => by have := HC v w h; rwa [RetQ_bad hz] at this
    replace HC := Lib.hid HC
    (have hz1 : ((termC T r age m n) != 0) = true := (by simpa using hz)); (have hz2 : ((termC T r age m n) == 0) = false := (by simpa using hz))
    clear hz
    go_enter Try.func105, Try.ntmps105
    go_wp2_with (first | (go_at_call 103; (with_reducible refine (HC.out _ _ (hv'.up (by repeat' (first | (with_reducible exact Up.refl _) | (with_reducible assumption) | (with_reducible refine Up.alloc ?_ _) | (with_reducible refine Up.drew ?_) | (with_reducible refine Up.grow ?_ _) | (with_reducible refine Up.setCell ?_ (by (try simp); (try omega)) _))))).mono ?_); rintro e w' ⟨rfl, hb⟩; first | (obtain ⟨x, rfl⟩ := Grow.on x hb) | (obtain ⟨x, rfl⟩ := Grow.mk' hb)) | (go_at_call 142; (with_reducible refine (s_In _ _ _ _).mono ?_); rintro e w' ⟨rfl, rfl⟩) | (go_at_call 186; (with_reducible refine (i_In _ _ _ _).mono ?_); rintro e w' ⟨rfl, rfl⟩) | (go_at_call 222; (with_reducible refine (s_Rate _ _).mono ?_); rintro e w' ⟨rfl, rfl⟩) | (go_at_call 165; (with_reducible refine (i_Rate _ _).mono ?_); rintro e w' ⟨rfl, rfl⟩) | (go_at_call 262; (with_reducible refine (i_Years _ _).mono ?_); rintro e w' ⟨rfl, rfl⟩) | (go_at_call 227; (with_reducible refine (s_Amount6 _ _).mono ?_); rintro e w' ⟨rfl, rfl⟩) | (go_at_call 236; (with_reducible refine (s_Sum7 _ _).mono ?_); rintro e w' ⟨rfl, rfl⟩) | ((first | with_reducible refine wp_region_in x (by kernel_rfl) (by kernel_rfl) ?_ | with_reducible refine wp_region_here (by kernel_rfl) (by kernel_rfl) ?_); (repeat (go_big_quiet_step ((first | (go_at_call 103; with_reducible exact Ret.grow _ (HC.out _ _ (hv'.up (by repeat' (first | (with_reducible exact Up.refl _) | (with_reducible assumption) | (with_reducible refine Up.alloc ?_ _) | (with_reducible refine Up.drew ?_) | (with_reducible refine Up.grow ?_ _) | (with_reducible refine Up.setCell ?_ (by (try simp); (try omega)) _)))))) | (go_at_call 142; with_reducible exact Ret.same _ (s_In _ _ _ _)) | (go_at_call 186; with_reducible exact Ret.same _ (i_In _ _ _ _)) | (go_at_call 222; with_reducible exact Ret.same _ (s_Rate _ _)) | (go_at_call 165; with_reducible exact Ret.same _ (i_Rate _ _)) | (go_at_call 262; with_reducible exact Ret.same _ (i_Years _ _)) | (go_at_call 227; with_reducible exact Ret.same _ (s_Amount6 _ _)) | (go_at_call 236; with_reducible exact Ret.same _ (s_Sum7 _ _)))))); refine wpQuiet_nil ?_; intro w' hw'; obtain ⟨x, rfl⟩ := hw'))
    go_ret2
    exact ⟨rfl, (by repeat' (first | (with_reducible exact Up.refl _) | (with_reducible assumption) | (with_reducible refine Up.alloc ?_ _) | (with_reducible refine Up.drew ?_) | (with_reducible refine Up.grow ?_ _) | (with_reducible refine Up.setCell ?_ (by (try simp); (try omega)) _)))⟩
  rw [hz] at HC ⊢
  obtain ⟨hT, h0, h1, hm1, k, n, rfl, rfl, hn, hl, hd⟩ := code6_ok hz
  have HC : ∀ v w, TabAt w T v → Calls Try.prog 103 #[v, .int .i64 r, .int .i64 (T.first + k), .int .i64 m, .int .i64 n] w (Ret w (.tuple #[.int .i64 (lateV T r (T.first + k) m n), .int .i64 0])) := fun v w h => by have := HC v w h; rwa [RetQ_ok] at this
  rw [RetQ_ok]
  unfold sureV
  unfold lateV at HC ⊢
  rw [kk, kmm, Int.toNat_natCast]
  rw [kk, kmm] at HC
  have b1 := inR_true.1 hm1
  have b2 := late_bd hT h0 h1 hl hd b1.1 b1.2
  have b3 := up_bd (a := m) (b := T.N r (k + n)) hd
  have c1 := cert_bd h0 n
  have c2 := qd_200 (a := m) (m := 1000000) (c := 1000000000) (by omega) (by omega) c1.1 (by omega) (by omega)
  have c3 := up_bd (a := m) (b := cert r n) (c := 1000000000) (by omega)
  have HU := Lib.hid (i_Priced m (cert r n) 1000000000 (by omega) (by omega) (by omega) (by omega) (by omega) (by omega) (by omega))
  have HCC := Lib.hid (i_Cert r h0 h1 n (by omega))
  replace HC := Lib.hid HC
  clear hz hd c1 hm1
  generalize cert r n = C at *
  generalize up m (T.N r (k + n)) (T.D r k) = U at *
  generalize up m C 1000000000 = V at *
  go_enter Try.func105, Try.ntmps105
  go_wp2_with (first | (go_at_call 103; (with_reducible refine (HC.out _ _ (hv'.up (by repeat' (first | (with_reducible exact Up.refl _) | (with_reducible assumption) | (with_reducible refine Up.alloc ?_ _) | (with_reducible refine Up.drew ?_) | (with_reducible refine Up.grow ?_ _) | (with_reducible refine Up.setCell ?_ (by (try simp); (try omega)) _))))).mono ?_); rintro e w' ⟨rfl, hb⟩; first | (obtain ⟨x, rfl⟩ := Grow.on x hb) | (obtain ⟨x, rfl⟩ := Grow.mk' hb)) | (go_at_call 229; (with_reducible refine (HCC.out _).mono ?_); rintro e w' ⟨rfl, hb⟩; first | (obtain ⟨x, rfl⟩ := Grow.on x hb) | (obtain ⟨x, rfl⟩ := Grow.mk' hb)) | (go_at_call 159; (with_reducible refine (HU.out _).mono ?_); rintro e w' ⟨rfl, hb⟩; first | (obtain ⟨x, rfl⟩ := Grow.on x hb) | (obtain ⟨x, rfl⟩ := Grow.mk' hb)) | (go_at_call 142; (with_reducible refine (s_In _ _ _ _).mono ?_); rintro e w' ⟨rfl, rfl⟩) | (go_at_call 186; (with_reducible refine (i_In _ _ _ _).mono ?_); rintro e w' ⟨rfl, rfl⟩) | (go_at_call 222; (with_reducible refine (s_Rate _ _).mono ?_); rintro e w' ⟨rfl, rfl⟩) | (go_at_call 165; (with_reducible refine (i_Rate _ _).mono ?_); rintro e w' ⟨rfl, rfl⟩) | (go_at_call 262; (with_reducible refine (i_Years _ _).mono ?_); rintro e w' ⟨rfl, rfl⟩) | (go_at_call 227; (with_reducible refine (s_Amount6 _ _).mono ?_); rintro e w' ⟨rfl, rfl⟩) | (go_at_call 236; (with_reducible refine (s_Sum7 _ _).mono ?_); rintro e w' ⟨rfl, rfl⟩) | ((first | with_reducible refine wp_region_in x (by kernel_rfl) (by kernel_rfl) ?_ | with_reducible refine wp_region_here (by kernel_rfl) (by kernel_rfl) ?_); (repeat (go_big_quiet_step ((first | (go_at_call 103; with_reducible exact Ret.grow _ (HC.out _ _ (hv'.up (by repeat' (first | (with_reducible exact Up.refl _) | (with_reducible assumption) | (with_reducible refine Up.alloc ?_ _) | (with_reducible refine Up.drew ?_) | (with_reducible refine Up.grow ?_ _) | (with_reducible refine Up.setCell ?_ (by (try simp); (try omega)) _)))))) | (go_at_call 229; with_reducible exact Ret.grow _ (HCC.out _)) | (go_at_call 159; with_reducible exact Ret.grow _ (HU.out _)) | (go_at_call 142; with_reducible exact Ret.same _ (s_In _ _ _ _)) | (go_at_call 186; with_reducible exact Ret.same _ (i_In _ _ _ _)) | (go_at_call 222; with_reducible exact Ret.same _ (s_Rate _ _)) | (go_at_call 165; with_reducible exact Ret.same _ (i_Rate _ _)) | (go_at_call 262; with_reducible exact Ret.same _ (i_Years _ _)) | (go_at_call 227; with_reducible exact Ret.same _ (s_Amount6 _ _)) | (go_at_call 236; with_reducible exact Ret.same _ (s_Sum7 _ _)))))); refine wpQuiet_nil ?_; intro w' hw'; obtain ⟨x, rfl⟩ := hw'))
  go_ret2
  exact ⟨rfl, (by repeat' (first | (with_reducible exact Up.refl _) | (with_reducible assumption) | (with_reducible refine Up.alloc ?_ _) | (with_reducible refine Up.drew ?_) | (with_reducible refine Up.grow ?_ _) | (with_reducible refine Up.setCell ?_ (by (try simp); (try omega)) _)))⟩

theorem code6_one {T : Tab} {r age n : Int} {b : Bool} : code6 T r age b n = 1 ↔ ¬ T.Ok := by
  unfold code6 code5
  by_cases hT : T.Ok
  · simp only [hT, if_true, not_true, iff_false]
    split <;> split <;> try split
    all_goals omega
  · simp [hT]
theorem code6_false {T : Tab} (hT : T.Ok) (r age n : Int) : code6 T r age false n = 2 := by
  unfold code6 code5
  simp only [hT, if_true]
  split <;> simp_all

set_option maxRecDepth 100000 in
theorem i_Amt (T : Tab) (r age p : Int) (v : Value) (w : World) (hv : TabAt w T v) :
    Calls Try.prog 109 #[v, .int .i64 r, .int .i64 age, .int .i64 p] w (RetQ w (amtC T r age p) (amtV T r age p)) := by
  have hv' := hv
  obtain ⟨A, c, rfl, hc, hm, _, hI⟩ := hv
  have HC := i_ChkA T r age 1 0
  rw [show inR 1 1 1000000 = true from by simp [inR]] at HC
  unfold amtC
  have bad : ¬ code6 T r age true 0 = 0 → ∀ v w, TabAt w T v → Calls Try.prog 225 #[v, .int .i64 r, .int .i64 age, .int .i64 1, .int .i64 0] w (Ret w (.tuple #[.agg #[.int .i64 0, .int .i64 0, .int .i64 0, .int .i64 0], .agg #[.int .i64 0, .int .i64 0, .int .i64 0, .int .i64 0], .int .i64 (code6 T r age true 0)])) := fun hz v w h => by have := HC v w h; rwa [RetChk_bad hz] at this
  by_cases hT : T.Ok
  case neg =>
    rw [code6_one.2 hT, RetQ_bad (by omega)]
    have HB := bad (by rw [code6_one.2 hT]; omega)
    rw [code6_one.2 hT] at HB
    replace HB := Lib.hid HB
    clear HC bad
    go_enter Try.func109, Try.ntmps109
    go_wp2_with (first | (go_at_call 225; (with_reducible refine (HB.out _ _ (hv'.up (by repeat' (first | (with_reducible exact Up.refl _) | (with_reducible assumption) | (with_reducible refine Up.alloc ?_ _) | (with_reducible refine Up.drew ?_) | (with_reducible refine Up.grow ?_ _) | (with_reducible refine Up.setCell ?_ (by (try simp); (try omega)) _))))).mono ?_); rintro e w' ⟨rfl, hb⟩; first | (obtain ⟨x, rfl⟩ := Grow.on x hb) | (obtain ⟨x, rfl⟩ := Grow.mk' hb)) | (go_at_call 142; (with_reducible refine (s_In _ _ _ _).mono ?_); rintro e w' ⟨rfl, rfl⟩) | (go_at_call 186; (with_reducible refine (i_In _ _ _ _).mono ?_); rintro e w' ⟨rfl, rfl⟩) | (go_at_call 222; (with_reducible refine (s_Rate _ _).mono ?_); rintro e w' ⟨rfl, rfl⟩) | (go_at_call 165; (with_reducible refine (i_Rate _ _).mono ?_); rintro e w' ⟨rfl, rfl⟩) | (go_at_call 262; (with_reducible refine (i_Years _ _).mono ?_); rintro e w' ⟨rfl, rfl⟩) | (go_at_call 227; (with_reducible refine (s_Amount6 _ _).mono ?_); rintro e w' ⟨rfl, rfl⟩) | (go_at_call 236; (with_reducible refine (s_Sum7 _ _).mono ?_); rintro e w' ⟨rfl, rfl⟩) | ((first | with_reducible refine wp_region_in x (by kernel_rfl) (by kernel_rfl) ?_ | with_reducible refine wp_region_here (by kernel_rfl) (by kernel_rfl) ?_); (repeat (go_big_quiet_step ((first | (go_at_call 225; with_reducible exact Ret.grow _ (HB.out _ _ (hv'.up (by repeat' (first | (with_reducible exact Up.refl _) | (with_reducible assumption) | (with_reducible refine Up.alloc ?_ _) | (with_reducible refine Up.drew ?_) | (with_reducible refine Up.grow ?_ _) | (with_reducible refine Up.setCell ?_ (by (try simp); (try omega)) _)))))) | (go_at_call 142; with_reducible exact Ret.same _ (s_In _ _ _ _)) | (go_at_call 186; with_reducible exact Ret.same _ (i_In _ _ _ _)) | (go_at_call 222; with_reducible exact Ret.same _ (s_Rate _ _)) | (go_at_call 165; with_reducible exact Ret.same _ (i_Rate _ _)) | (go_at_call 262; with_reducible exact Ret.same _ (i_Years _ _)) | (go_at_call 227; with_reducible exact Ret.same _ (s_Amount6 _ _)) | (go_at_call 236; with_reducible exact Ret.same _ (s_Sum7 _ _)))))); refine wpQuiet_nil ?_; intro w' hw'; obtain ⟨x, rfl⟩ := hw'))
    go_ret2
    exact ⟨rfl, (by repeat' (first | (with_reducible exact Up.refl _) | (with_reducible assumption) | (with_reducible refine Up.alloc ?_ _) | (with_reducible refine Up.drew ?_) | (with_reducible refine Up.grow ?_ _) | (with_reducible refine Up.setCell ?_ (by (try simp); (try omega)) _)))⟩
  have hk1 : (code6 T r age true 0 == 1) = false := by
    have : ¬ code6 T r age true 0 = 1 := fun h => code6_one.1 h hT
    simpa using this
  by_cases hp : inR p 1 1000000000 = true
  case neg =>
    have hp := Bool.eq_false_iff.2 hp
    rw [hp, code6_false hT, RetQ_bad (by omega)]
    by_cases hz : code6 T r age true 0 = 0
    · rw [hz] at HC hk1
      have HB : ∀ v w, TabAt w T v → Calls Try.prog 225 #[v, .int .i64 r, .int .i64 age, .int .i64 1, .int .i64 0] w (Ret w (.tuple #[colV T r (age - T.first).toNat, colV T r (age + 0 - T.first).toNat, .int .i64 0])) := fun v w h => by have := HC v w h; rwa [RetChk_ok] at this
      unfold colV at HB
      replace HB := Lib.hid HB
      clear HC bad hz hk1
      go_enter Try.func109, Try.ntmps109
      go_wp2_with (first | (go_at_call 225; (with_reducible refine (HB.out _ _ (hv'.up (by repeat' (first | (with_reducible exact Up.refl _) | (with_reducible assumption) | (with_reducible refine Up.alloc ?_ _) | (with_reducible refine Up.drew ?_) | (with_reducible refine Up.grow ?_ _) | (with_reducible refine Up.setCell ?_ (by (try simp); (try omega)) _))))).mono ?_); rintro e w' ⟨rfl, hb⟩; first | (obtain ⟨x, rfl⟩ := Grow.on x hb) | (obtain ⟨x, rfl⟩ := Grow.mk' hb)) | (go_at_call 142; (with_reducible refine (s_In _ _ _ _).mono ?_); rintro e w' ⟨rfl, rfl⟩) | (go_at_call 186; (with_reducible refine (i_In _ _ _ _).mono ?_); rintro e w' ⟨rfl, rfl⟩) | (go_at_call 222; (with_reducible refine (s_Rate _ _).mono ?_); rintro e w' ⟨rfl, rfl⟩) | (go_at_call 165; (with_reducible refine (i_Rate _ _).mono ?_); rintro e w' ⟨rfl, rfl⟩) | (go_at_call 262; (with_reducible refine (i_Years _ _).mono ?_); rintro e w' ⟨rfl, rfl⟩) | (go_at_call 227; (with_reducible refine (s_Amount6 _ _).mono ?_); rintro e w' ⟨rfl, rfl⟩) | (go_at_call 236; (with_reducible refine (s_Sum7 _ _).mono ?_); rintro e w' ⟨rfl, rfl⟩) | ((first | with_reducible refine wp_region_in x (by kernel_rfl) (by kernel_rfl) ?_ | with_reducible refine wp_region_here (by kernel_rfl) (by kernel_rfl) ?_); (repeat (go_big_quiet_step ((first | (go_at_call 225; with_reducible exact Ret.grow _ (HB.out _ _ (hv'.up (by repeat' (first | (with_reducible exact Up.refl _) | (with_reducible assumption) | (with_reducible refine Up.alloc ?_ _) | (with_reducible refine Up.drew ?_) | (with_reducible refine Up.grow ?_ _) | (with_reducible refine Up.setCell ?_ (by (try simp); (try omega)) _)))))) | (go_at_call 142; with_reducible exact Ret.same _ (s_In _ _ _ _)) | (go_at_call 186; with_reducible exact Ret.same _ (i_In _ _ _ _)) | (go_at_call 222; with_reducible exact Ret.same _ (s_Rate _ _)) | (go_at_call 165; with_reducible exact Ret.same _ (i_Rate _ _)) | (go_at_call 262; with_reducible exact Ret.same _ (i_Years _ _)) | (go_at_call 227; with_reducible exact Ret.same _ (s_Amount6 _ _)) | (go_at_call 236; with_reducible exact Ret.same _ (s_Sum7 _ _)))))); refine wpQuiet_nil ?_; intro w' hw'; obtain ⟨x, rfl⟩ := hw'))
      go_ret2
      exact ⟨rfl, (by repeat' (first | (with_reducible exact Up.refl _) | (with_reducible assumption) | (with_reducible refine Up.alloc ?_ _) | (with_reducible refine Up.drew ?_) | (with_reducible refine Up.grow ?_ _) | (with_reducible refine Up.setCell ?_ (by (try simp); (try omega)) _)))⟩
    · have HB := Lib.hid (bad hz)
      clear HC bad hz
      generalize code6 T r age true 0 = K at *
      go_enter Try.func109, Try.ntmps109
      go_wp2_with (first | (go_at_call 225; (with_reducible refine (HB.out _ _ (hv'.up (by repeat' (first | (with_reducible exact Up.refl _) | (with_reducible assumption) | (with_reducible refine Up.alloc ?_ _) | (with_reducible refine Up.drew ?_) | (with_reducible refine Up.grow ?_ _) | (with_reducible refine Up.setCell ?_ (by (try simp); (try omega)) _))))).mono ?_); rintro e w' ⟨rfl, hb⟩; first | (obtain ⟨x, rfl⟩ := Grow.on x hb) | (obtain ⟨x, rfl⟩ := Grow.mk' hb)) | (go_at_call 142; (with_reducible refine (s_In _ _ _ _).mono ?_); rintro e w' ⟨rfl, rfl⟩) | (go_at_call 186; (with_reducible refine (i_In _ _ _ _).mono ?_); rintro e w' ⟨rfl, rfl⟩) | (go_at_call 222; (with_reducible refine (s_Rate _ _).mono ?_); rintro e w' ⟨rfl, rfl⟩) | (go_at_call 165; (with_reducible refine (i_Rate _ _).mono ?_); rintro e w' ⟨rfl, rfl⟩) | (go_at_call 262; (with_reducible refine (i_Years _ _).mono ?_); rintro e w' ⟨rfl, rfl⟩) | (go_at_call 227; (with_reducible refine (s_Amount6 _ _).mono ?_); rintro e w' ⟨rfl, rfl⟩) | (go_at_call 236; (with_reducible refine (s_Sum7 _ _).mono ?_); rintro e w' ⟨rfl, rfl⟩) | ((first | with_reducible refine wp_region_in x (by kernel_rfl) (by kernel_rfl) ?_ | with_reducible refine wp_region_here (by kernel_rfl) (by kernel_rfl) ?_); (repeat (go_big_quiet_step ((first | (go_at_call 225; with_reducible exact Ret.grow _ (HB.out _ _ (hv'.up (by repeat' (first | (with_reducible exact Up.refl _) | (with_reducible assumption) | (with_reducible refine Up.alloc ?_ _) | (with_reducible refine Up.drew ?_) | (with_reducible refine Up.grow ?_ _) | (with_reducible refine Up.setCell ?_ (by (try simp); (try omega)) _)))))) | (go_at_call 142; with_reducible exact Ret.same _ (s_In _ _ _ _)) | (go_at_call 186; with_reducible exact Ret.same _ (i_In _ _ _ _)) | (go_at_call 222; with_reducible exact Ret.same _ (s_Rate _ _)) | (go_at_call 165; with_reducible exact Ret.same _ (i_Rate _ _)) | (go_at_call 262; with_reducible exact Ret.same _ (i_Years _ _)) | (go_at_call 227; with_reducible exact Ret.same _ (s_Amount6 _ _)) | (go_at_call 236; with_reducible exact Ret.same _ (s_Sum7 _ _)))))); refine wpQuiet_nil ?_; intro w' hw'; obtain ⟨x, rfl⟩ := hw'))
      go_ret2
      exact ⟨rfl, (by repeat' (first | (with_reducible exact Up.refl _) | (with_reducible assumption) | (with_reducible refine Up.alloc ?_ _) | (with_reducible refine Up.drew ?_) | (with_reducible refine Up.grow ?_ _) | (with_reducible refine Up.setCell ?_ (by (try simp); (try omega)) _)))⟩
  rw [hp]
  by_cases hz : code6 T r age true 0 = 0
  case neg =>
    have HB := Lib.hid (bad hz)
    rw [RetQ_bad hz]
    (have hz1 : ((code6 T r age true 0) != 0) = true := (by simpa using hz)); (have hz2 : ((code6 T r age true 0) == 0) = false := (by simpa using hz))
    clear HC bad hz
    generalize code6 T r age true 0 = K at *
    go_enter Try.func109, Try.ntmps109
    go_wp2_with (first | (go_at_call 225; (with_reducible refine (HB.out _ _ (hv'.up (by repeat' (first | (with_reducible exact Up.refl _) | (with_reducible assumption) | (with_reducible refine Up.alloc ?_ _) | (with_reducible refine Up.drew ?_) | (with_reducible refine Up.grow ?_ _) | (with_reducible refine Up.setCell ?_ (by (try simp); (try omega)) _))))).mono ?_); rintro e w' ⟨rfl, hb⟩; first | (obtain ⟨x, rfl⟩ := Grow.on x hb) | (obtain ⟨x, rfl⟩ := Grow.mk' hb)) | (go_at_call 142; (with_reducible refine (s_In _ _ _ _).mono ?_); rintro e w' ⟨rfl, rfl⟩) | (go_at_call 186; (with_reducible refine (i_In _ _ _ _).mono ?_); rintro e w' ⟨rfl, rfl⟩) | (go_at_call 222; (with_reducible refine (s_Rate _ _).mono ?_); rintro e w' ⟨rfl, rfl⟩) | (go_at_call 165; (with_reducible refine (i_Rate _ _).mono ?_); rintro e w' ⟨rfl, rfl⟩) | (go_at_call 262; (with_reducible refine (i_Years _ _).mono ?_); rintro e w' ⟨rfl, rfl⟩) | (go_at_call 227; (with_reducible refine (s_Amount6 _ _).mono ?_); rintro e w' ⟨rfl, rfl⟩) | (go_at_call 236; (with_reducible refine (s_Sum7 _ _).mono ?_); rintro e w' ⟨rfl, rfl⟩) | ((first | with_reducible refine wp_region_in x (by kernel_rfl) (by kernel_rfl) ?_ | with_reducible refine wp_region_here (by kernel_rfl) (by kernel_rfl) ?_); (repeat (go_big_quiet_step ((first | (go_at_call 225; with_reducible exact Ret.grow _ (HB.out _ _ (hv'.up (by repeat' (first | (with_reducible exact Up.refl _) | (with_reducible assumption) | (with_reducible refine Up.alloc ?_ _) | (with_reducible refine Up.drew ?_) | (with_reducible refine Up.grow ?_ _) | (with_reducible refine Up.setCell ?_ (by (try simp); (try omega)) _)))))) | (go_at_call 142; with_reducible exact Ret.same _ (s_In _ _ _ _)) | (go_at_call 186; with_reducible exact Ret.same _ (i_In _ _ _ _)) | (go_at_call 222; with_reducible exact Ret.same _ (s_Rate _ _)) | (go_at_call 165; with_reducible exact Ret.same _ (i_Rate _ _)) | (go_at_call 262; with_reducible exact Ret.same _ (i_Years _ _)) | (go_at_call 227; with_reducible exact Ret.same _ (s_Amount6 _ _)) | (go_at_call 236; with_reducible exact Ret.same _ (s_Sum7 _ _)))))); refine wpQuiet_nil ?_; intro w' hw'; obtain ⟨x, rfl⟩ := hw'))
    go_ret2
    exact ⟨rfl, (by repeat' (first | (with_reducible exact Up.refl _) | (with_reducible assumption) | (with_reducible refine Up.alloc ?_ _) | (with_reducible refine Up.drew ?_) | (with_reducible refine Up.grow ?_ _) | (with_reducible refine Up.setCell ?_ (by (try simp); (try omega)) _)))⟩
  obtain ⟨_, h0, h1, _, k, n, rfl, hn0, hn, hl, hd⟩ := code6_ok hz
  rw [hz] at HC ⊢
  have HB : ∀ v w, TabAt w T v → Calls Try.prog 225 #[v, .int .i64 r, .int .i64 (T.first + k), .int .i64 1, .int .i64 0] w (Ret w (.tuple #[colV T r k, colV T r k, .int .i64 0])) := fun v w h => by have := HC v w h; rwa [RetChk_ok, Int.add_zero, kk] at this
  rw [RetQ_ok]
  unfold amtV
  rw [kk]
  unfold colV at HB
  replace HB := Lib.hid HB
  have b1 := inR_true.1 hp
  have b2 := hT.D_bd h0 k
  have b3 := hT.N_max h0 k
  have b4 := amt_bd hT h0 hd b1.1 b1.2
  have HU := Lib.hid (i_Md p (T.D r k) (T.N r k) (by omega) (by omega) (by omega) (by omega) (by omega) (by omega) (by omega))
  clear HC bad hz hk1 hn0 hd
  generalize qd p (T.D r k) (T.N r k) = U at *
  generalize rm p (T.D r k) (T.N r k) = U2 at *
  generalize T.N r k = N at *
  generalize T.D r k = D at *
  go_enter Try.func109, Try.ntmps109
  go_wp2_with (first | (go_at_call 225; (with_reducible refine (HB.out _ _ (hv'.up (by repeat' (first | (with_reducible exact Up.refl _) | (with_reducible assumption) | (with_reducible refine Up.alloc ?_ _) | (with_reducible refine Up.drew ?_) | (with_reducible refine Up.grow ?_ _) | (with_reducible refine Up.setCell ?_ (by (try simp); (try omega)) _))))).mono ?_); rintro e w' ⟨rfl, hb⟩; first | (obtain ⟨x, rfl⟩ := Grow.on x hb) | (obtain ⟨x, rfl⟩ := Grow.mk' hb)) | (go_at_call 231; (with_reducible refine (HU.out _).mono ?_); rintro e w' ⟨rfl, hb⟩; first | (obtain ⟨x, rfl⟩ := Grow.on x hb) | (obtain ⟨x, rfl⟩ := Grow.mk' hb)) | (go_at_call 142; (with_reducible refine (s_In _ _ _ _).mono ?_); rintro e w' ⟨rfl, rfl⟩) | (go_at_call 186; (with_reducible refine (i_In _ _ _ _).mono ?_); rintro e w' ⟨rfl, rfl⟩) | (go_at_call 222; (with_reducible refine (s_Rate _ _).mono ?_); rintro e w' ⟨rfl, rfl⟩) | (go_at_call 165; (with_reducible refine (i_Rate _ _).mono ?_); rintro e w' ⟨rfl, rfl⟩) | (go_at_call 262; (with_reducible refine (i_Years _ _).mono ?_); rintro e w' ⟨rfl, rfl⟩) | (go_at_call 227; (with_reducible refine (s_Amount6 _ _).mono ?_); rintro e w' ⟨rfl, rfl⟩) | (go_at_call 236; (with_reducible refine (s_Sum7 _ _).mono ?_); rintro e w' ⟨rfl, rfl⟩) | ((first | with_reducible refine wp_region_in x (by kernel_rfl) (by kernel_rfl) ?_ | with_reducible refine wp_region_here (by kernel_rfl) (by kernel_rfl) ?_); (repeat (go_big_quiet_step ((first | (go_at_call 225; with_reducible exact Ret.grow _ (HB.out _ _ (hv'.up (by repeat' (first | (with_reducible exact Up.refl _) | (with_reducible assumption) | (with_reducible refine Up.alloc ?_ _) | (with_reducible refine Up.drew ?_) | (with_reducible refine Up.grow ?_ _) | (with_reducible refine Up.setCell ?_ (by (try simp); (try omega)) _)))))) | (go_at_call 231; with_reducible exact Ret.grow _ (HU.out _)) | (go_at_call 142; with_reducible exact Ret.same _ (s_In _ _ _ _)) | (go_at_call 186; with_reducible exact Ret.same _ (i_In _ _ _ _)) | (go_at_call 222; with_reducible exact Ret.same _ (s_Rate _ _)) | (go_at_call 165; with_reducible exact Ret.same _ (i_Rate _ _)) | (go_at_call 262; with_reducible exact Ret.same _ (i_Years _ _)) | (go_at_call 227; with_reducible exact Ret.same _ (s_Amount6 _ _)) | (go_at_call 236; with_reducible exact Ret.same _ (s_Sum7 _ _)))))); refine wpQuiet_nil ?_; intro w' hw'; obtain ⟨x, rfl⟩ := hw'))
  go_ret2
  exact ⟨rfl, (by repeat' (first | (with_reducible exact Up.refl _) | (with_reducible assumption) | (with_reducible refine Up.alloc ?_ _) | (with_reducible refine Up.drew ?_) | (with_reducible refine Up.grow ?_ _) | (with_reducible refine Up.setCell ?_ (by (try simp); (try omega)) _)))⟩
end Go.Proofs.Ytdeoampkbbbleaa
