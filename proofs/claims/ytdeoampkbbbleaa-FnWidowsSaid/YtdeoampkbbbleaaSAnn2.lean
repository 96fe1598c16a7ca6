/- Contracts of the reference's certain annuity, of the amount for a price and of the list of prices. Condition: the slice reads as the table's numbers. -/
import Derived.Test.YtdeoampkbbbleaaSAnn
import Derived.Test.YtdeoampkbbbleaaStep
import Derived.Test.YtdeoampkbbbleaaLists
namespace Go.Proofs.Ytdeoampkbbbleaa
open Go.RowKit Pu

/-- The sum of the first n discounts. -/
def cert (r : Int) (n : Nat) : Int := S (disc r) 0 n
theorem cert_bd {r : Int} (h0 : 0 ≤ r) (n : Nat) : 0 ≤ cert r n ∧ cert r n ≤ n * 1000000000 := S_bounds _ _ _ _ fun _ _ => disc_bd h0 _
theorem cert_succ (r : Int) (n : Nat) : cert r (n + 1) = cert r n + disc r n := by unfold cert; rw [S_succ, Nat.zero_add]

theorem s_Cert (r : Int) (h0 : 0 ≤ r) (h1 : r ≤ 200) (n : Nat) (hn : n ≤ 120) (w : World) :
    Calls Try.prog 230 #[.int .i64 r, .int .i64 0, .int .i64 n] w fun e w' => e = .returned (.int .i64 (cert r n)) ∧ w = w' := by
  go_enter Try.func230, Try.ntmps230
  go_wp2
  go_loop [7, 8] (fun s i => ∃ k : Nat, k ≤ n ∧ i = .int .i64 k ∧ s = .int .i64 (cert r k)) (fun _ i => n - (intOf i).toNat)
  case atStart => exact ⟨0, Nat.zero_le _, rfl, rfl⟩
  case round =>
    obtain ⟨k, hk, rfl, rfl⟩ := hrel
    have hb := cert_bd h0 k
    have hd := disc_bd h0 k
    have E := Lib.hid (cert_succ r k)
    have HD := s_Disc r h0 h1 k (by omega) (by omega)
    rw [Int.toNat_natCast] at HD
    replace HD := Lib.hid HD
    by_cases hlt : k < n
    · go_wp2_with (go_at_call 247; refine (HD.out _).mono ?_; rintro e w' ⟨rfl, rfl⟩)
      go_round
      case rel => exact ⟨k + 1, by omega, by go_num, by rw [E.out]⟩
      case measure => simp [intOf]; omega
    · go_wp2
      go_ret
      exact ⟨ret_int (by rw [show k = n from by omega]), rfl⟩

def sureV (T : Tab) (r age m n : Int) : Int := up m (cert r n.toNat) 1000000000 + lateV T r age m n

set_option maxRecDepth 100000 in
theorem s_Sure (T : Tab) (r age m n : Int) (v : Value) (w : World) (hv : TabAt w T v) :
    Calls Try.prog 106 #[v, .int .i64 r, .int .i64 age, .int .i64 m, .int .i64 n] w (RetQ w (termC T r age m n) (sureV T r age m n)) := by
  have hv' := hv
  obtain ⟨A, c, rfl, hc, hm, _, hI⟩ := hv
  have HC := s_Code6 T r age (inR m 1 1000000) n
  unfold termC
  by_cases hz : code6 T r age (inR m 1 1000000) n = 0
  case neg =>
    rw [RetQ_bad hz]
    replace HC := Lib.hid HC
    (have hz1 : ((code6 T r age (inR m 1 1000000) n) != 0) = true := (by simpa using hz)); (have hz2 : ((code6 T r age (inR m 1 1000000) n) == 0) = false := (by simpa using hz))
    clear hz
    go_enter Try.func106, Try.ntmps106
    go_wp2_with (first | (go_at_call 226; (with_reducible refine (HC.out _ _ (hv'.up (by repeat' (first | (with_reducible exact Up.refl _) | (with_reducible assumption) | (with_reducible refine Up.alloc ?_ _) | (with_reducible refine Up.drew ?_) | (with_reducible refine Up.grow ?_ _) | (with_reducible refine Up.setCell ?_ (by (try simp); (try omega)) _))))).mono ?_); rintro e w' ⟨rfl, hb⟩; first | (obtain ⟨x, rfl⟩ := Grow.on x hb) | (obtain ⟨x, rfl⟩ := Grow.mk' hb)) | (go_at_call 142; (with_reducible refine (s_In _ _ _ _).mono ?_); rintro e w' ⟨rfl, rfl⟩) | (go_at_call 186; (with_reducible refine (i_In _ _ _ _).mono ?_); rintro e w' ⟨rfl, rfl⟩) | (go_at_call 222; (with_reducible refine (s_Rate _ _).mono ?_); rintro e w' ⟨rfl, rfl⟩) | (go_at_call 165; (with_reducible refine (i_Rate _ _).mono ?_); rintro e w' ⟨rfl, rfl⟩) | (go_at_call 262; (with_reducible refine (i_Years _ _).mono ?_); rintro e w' ⟨rfl, rfl⟩) | (go_at_call 227; (with_reducible refine (s_Amount6 _ _).mono ?_); rintro e w' ⟨rfl, rfl⟩) | (go_at_call 236; (with_reducible refine (s_Sum7 _ _).mono ?_); rintro e w' ⟨rfl, rfl⟩) | ((first | with_reducible refine wp_region_in x (by kernel_rfl) (by kernel_rfl) ?_ | with_reducible refine wp_region_here (by kernel_rfl) (by kernel_rfl) ?_); (repeat (go_big_quiet_step ((first | (go_at_call 226; with_reducible exact Ret.grow _ (HC.out _ _ (hv'.up (by repeat' (first | (with_reducible exact Up.refl _) | (with_reducible assumption) | (with_reducible refine Up.alloc ?_ _) | (with_reducible refine Up.drew ?_) | (with_reducible refine Up.grow ?_ _) | (with_reducible refine Up.setCell ?_ (by (try simp); (try omega)) _)))))) | (go_at_call 142; with_reducible exact Ret.same _ (s_In _ _ _ _)) | (go_at_call 186; with_reducible exact Ret.same _ (i_In _ _ _ _)) | (go_at_call 222; with_reducible exact Ret.same _ (s_Rate _ _)) | (go_at_call 165; with_reducible exact Ret.same _ (i_Rate _ _)) | (go_at_call 262; with_reducible exact Ret.same _ (i_Years _ _)) | (go_at_call 227; with_reducible exact Ret.same _ (s_Amount6 _ _)) | (go_at_call 236; with_reducible exact Ret.same _ (s_Sum7 _ _)))))); refine wpQuiet_nil ?_; intro w' hw'; obtain ⟨x, rfl⟩ := hw'))
    go_ret2
    exact ⟨rfl, (by repeat' (first | (with_reducible exact Up.refl _) | (with_reducible assumption) | (with_reducible refine Up.alloc ?_ _) | (with_reducible refine Up.drew ?_) | (with_reducible refine Up.grow ?_ _) | (with_reducible refine Up.setCell ?_ (by (try simp); (try omega)) _)))⟩
  rw [hz] at HC ⊢
  obtain ⟨hT, h0, h1, hm1, k, n, rfl, rfl, hn, hl, hd⟩ := code6_ok hz
  rw [RetQ_ok]
  unfold sureV lateV
  rw [kk, kmm, Int.toNat_natCast]
  rw [hm1] at HC
  have b1 := inR_true.1 hm1
  have HL := Lib.hid (s_Late0 hT h0 h1 hl hd b1.1 b1.2)
  have b2 := late_bd hT h0 h1 hl hd b1.1 b1.2
  have b3 := up_bd (a := m) (b := T.N r (k + n)) hd
  have c1 := cert_bd h0 n
  have c2 := qd_200 (a := m) (m := 1000000) (c := 1000000000) (by omega) (by omega) c1.1 (by omega) (by omega)
  have c3 := up_bd (a := m) (b := cert r n) (c := 1000000000) (by omega)
  have HU := Lib.hid (s_Up m (cert r n) 1000000000 (by omega) (by omega) (by omega) (by omega) (by omega) (by omega) (by omega))
  have HCC := Lib.hid (s_Cert r h0 h1 n (by omega))
  replace HC := Lib.hid HC
  clear hz hd c1
  generalize cert r n = C at *
  generalize up m (T.N r (k + n)) (T.D r k) = U at *
  generalize up m C 1000000000 = V at *
  have i1 : IntKind.i64.wrap (V + U) = V + U := IntWalk.i64_in _ (by omega)
  go_enter Try.func106, Try.ntmps106
  go_wp2_with (first | (go_at_call 226; (with_reducible refine (HC.out _ _ (hv'.up (by repeat' (first | (with_reducible exact Up.refl _) | (with_reducible assumption) | (with_reducible refine Up.alloc ?_ _) | (with_reducible refine Up.drew ?_) | (with_reducible refine Up.grow ?_ _) | (with_reducible refine Up.setCell ?_ (by (try simp); (try omega)) _))))).mono ?_); rintro e w' ⟨rfl, hb⟩; first | (obtain ⟨x, rfl⟩ := Grow.on x hb) | (obtain ⟨x, rfl⟩ := Grow.mk' hb)) | (go_at_call 228; (with_reducible refine (HL.out _ _ (hv'.up (by repeat' (first | (with_reducible exact Up.refl _) | (with_reducible assumption) | (with_reducible refine Up.alloc ?_ _) | (with_reducible refine Up.drew ?_) | (with_reducible refine Up.grow ?_ _) | (with_reducible refine Up.setCell ?_ (by (try simp); (try omega)) _))))).mono ?_); rintro e w' ⟨rfl, hb⟩; first | (obtain ⟨x, rfl⟩ := Grow.on x hb) | (obtain ⟨x, rfl⟩ := Grow.mk' hb)) | (go_at_call 230; (with_reducible refine (HCC.out _).mono ?_); rintro e w' ⟨rfl, rfl⟩) | (go_at_call 158; (with_reducible refine (HU.out _).mono ?_); rintro e w' ⟨rfl, rfl⟩) | (go_at_call 142; (with_reducible refine (s_In _ _ _ _).mono ?_); rintro e w' ⟨rfl, rfl⟩) | (go_at_call 186; (with_reducible refine (i_In _ _ _ _).mono ?_); rintro e w' ⟨rfl, rfl⟩) | (go_at_call 222; (with_reducible refine (s_Rate _ _).mono ?_); rintro e w' ⟨rfl, rfl⟩) | (go_at_call 165; (with_reducible refine (i_Rate _ _).mono ?_); rintro e w' ⟨rfl, rfl⟩) | (go_at_call 262; (with_reducible refine (i_Years _ _).mono ?_); rintro e w' ⟨rfl, rfl⟩) | (go_at_call 227; (with_reducible refine (s_Amount6 _ _).mono ?_); rintro e w' ⟨rfl, rfl⟩) | (go_at_call 236; (with_reducible refine (s_Sum7 _ _).mono ?_); rintro e w' ⟨rfl, rfl⟩) | ((first | with_reducible refine wp_region_in x (by kernel_rfl) (by kernel_rfl) ?_ | with_reducible refine wp_region_here (by kernel_rfl) (by kernel_rfl) ?_); (repeat (go_big_quiet_step ((first | (go_at_call 226; with_reducible exact Ret.grow _ (HC.out _ _ (hv'.up (by repeat' (first | (with_reducible exact Up.refl _) | (with_reducible assumption) | (with_reducible refine Up.alloc ?_ _) | (with_reducible refine Up.drew ?_) | (with_reducible refine Up.grow ?_ _) | (with_reducible refine Up.setCell ?_ (by (try simp); (try omega)) _)))))) | (go_at_call 228; with_reducible exact Ret.grow _ (HL.out _ _ (hv'.up (by repeat' (first | (with_reducible exact Up.refl _) | (with_reducible assumption) | (with_reducible refine Up.alloc ?_ _) | (with_reducible refine Up.drew ?_) | (with_reducible refine Up.grow ?_ _) | (with_reducible refine Up.setCell ?_ (by (try simp); (try omega)) _)))))) | (go_at_call 230; with_reducible exact Ret.same _ (HCC.out _)) | (go_at_call 158; with_reducible exact Ret.same _ (HU.out _)) | (go_at_call 142; with_reducible exact Ret.same _ (s_In _ _ _ _)) | (go_at_call 186; with_reducible exact Ret.same _ (i_In _ _ _ _)) | (go_at_call 222; with_reducible exact Ret.same _ (s_Rate _ _)) | (go_at_call 165; with_reducible exact Ret.same _ (i_Rate _ _)) | (go_at_call 262; with_reducible exact Ret.same _ (i_Years _ _)) | (go_at_call 227; with_reducible exact Ret.same _ (s_Amount6 _ _)) | (go_at_call 236; with_reducible exact Ret.same _ (s_Sum7 _ _)))))); refine wpQuiet_nil ?_; intro w' hw'; obtain ⟨x, rfl⟩ := hw'))
  go_ret2
  exact ⟨rfl, (by repeat' (first | (with_reducible exact Up.refl _) | (with_reducible assumption) | (with_reducible refine Up.alloc ?_ _) | (with_reducible refine Up.drew ?_) | (with_reducible refine Up.grow ?_ _) | (with_reducible refine Up.setCell ?_ (by (try simp); (try omega)) _)))⟩

noncomputable def amtC (T : Tab) (r age p : Int) : Int := code6 T r age (inR p 1 1000000000) 0
def amtV (T : Tab) (r age p : Int) : Int := qd p (T.D r (age - T.first).toNat) (T.N r (age - T.first).toNat)
theorem amt_bd {T : Tab} (hT : T.Ok) {r : Int} (h0 : 0 ≤ r) {k : Nat} (hd : 1 ≤ T.D r k) {p : Int} (hp : 1 ≤ p) (hp2 : p ≤ 1000000000) : 1 ≤ T.N r k ∧ 0 ≤ qd p (T.D r k) (T.N r k) ∧ qd p (T.D r k) (T.N r k) ≤ 1000000000 := by
  have b1 := hT.D_le_N h0 k
  have b2 := qd_le (a := p) (b := T.D r k) (c := T.N r k) (K := 1) (by omega) (by omega) (by omega)
  have b3 := qd_nonneg (a := p) (b := T.D r k) (c := T.N r k) (by omega) (by omega) (by omega)
  omega

set_option maxRecDepth 100000 in
theorem s_Amt (T : Tab) (r age p : Int) (v : Value) (w : World) (hv : TabAt w T v) :
    Calls Try.prog 110 #[v, .int .i64 r, .int .i64 age, .int .i64 p] w (RetQ w (amtC T r age p) (amtV T r age p)) := by
  have hv' := hv
  obtain ⟨A, c, rfl, hc, hm, _, hI⟩ := hv
  have HC := s_Code6 T r age (inR p 1 1000000000) 0
  unfold amtC
  by_cases hz : code6 T r age (inR p 1 1000000000) 0 = 0
  case neg =>
    rw [RetQ_bad hz]
    replace HC := Lib.hid HC
    (have hz1 : ((code6 T r age (inR p 1 1000000000) 0) != 0) = true := (by simpa using hz)); (have hz2 : ((code6 T r age (inR p 1 1000000000) 0) == 0) = false := (by simpa using hz))
    clear hz
    go_enter Try.func110, Try.ntmps110
    go_wp2_with (first | (go_at_call 226; (with_reducible refine (HC.out _ _ (hv'.up (by repeat' (first | (with_reducible exact Up.refl _) | (with_reducible assumption) | (with_reducible refine Up.alloc ?_ _) | (with_reducible refine Up.drew ?_) | (with_reducible refine Up.grow ?_ _) | (with_reducible refine Up.setCell ?_ (by (try simp); (try omega)) _))))).mono ?_); rintro e w' ⟨rfl, hb⟩; first | (obtain ⟨x, rfl⟩ := Grow.on x hb) | (obtain ⟨x, rfl⟩ := Grow.mk' hb)) | (go_at_call 142; (with_reducible refine (s_In _ _ _ _).mono ?_); rintro e w' ⟨rfl, rfl⟩) | (go_at_call 186; (with_reducible refine (i_In _ _ _ _).mono ?_); rintro e w' ⟨rfl, rfl⟩) | (go_at_call 222; (with_reducible refine (s_Rate _ _).mono ?_); rintro e w' ⟨rfl, rfl⟩) | (go_at_call 165; (with_reducible refine (i_Rate _ _).mono ?_); rintro e w' ⟨rfl, rfl⟩) | (go_at_call 262; (with_reducible refine (i_Years _ _).mono ?_); rintro e w' ⟨rfl, rfl⟩) | (go_at_call 227; (with_reducible refine (s_Amount6 _ _).mono ?_); rintro e w' ⟨rfl, rfl⟩) | (go_at_call 236; (with_reducible refine (s_Sum7 _ _).mono ?_); rintro e w' ⟨rfl, rfl⟩) | ((first | with_reducible refine wp_region_in x (by kernel_rfl) (by kernel_rfl) ?_ | with_reducible refine wp_region_here (by kernel_rfl) (by kernel_rfl) ?_); (repeat (go_big_quiet_step ((first | (go_at_call 226; with_reducible exact Ret.grow _ (HC.out _ _ (hv'.up (by repeat' (first | (with_reducible exact Up.refl _) | (with_reducible assumption) | (with_reducible refine Up.alloc ?_ _) | (with_reducible refine Up.drew ?_) | (with_reducible refine Up.grow ?_ _) | (with_reducible refine Up.setCell ?_ (by (try simp); (try omega)) _)))))) | (go_at_call 142; with_reducible exact Ret.same _ (s_In _ _ _ _)) | (go_at_call 186; with_reducible exact Ret.same _ (i_In _ _ _ _)) | (go_at_call 222; with_reducible exact Ret.same _ (s_Rate _ _)) | (go_at_call 165; with_reducible exact Ret.same _ (i_Rate _ _)) | (go_at_call 262; with_reducible exact Ret.same _ (i_Years _ _)) | (go_at_call 227; with_reducible exact Ret.same _ (s_Amount6 _ _)) | (go_at_call 236; with_reducible exact Ret.same _ (s_Sum7 _ _)))))); refine wpQuiet_nil ?_; intro w' hw'; obtain ⟨x, rfl⟩ := hw'))
    go_ret2
    exact ⟨rfl, (by repeat' (first | (with_reducible exact Up.refl _) | (with_reducible assumption) | (with_reducible refine Up.alloc ?_ _) | (with_reducible refine Up.drew ?_) | (with_reducible refine Up.grow ?_ _) | (with_reducible refine Up.setCell ?_ (by (try simp); (try omega)) _)))⟩
  rw [hz] at HC ⊢
  obtain ⟨hT, h0, h1, hm1, k, n, rfl, hn0, hn, hl, hd⟩ := code6_ok hz
  rw [RetQ_ok]
  unfold amtV
  rw [kk]
  rw [hm1] at HC
  have b1 := inR_true.1 hm1
  have b2 := hT.D_bd h0 k
  have b3 := hT.N_max h0 k
  have b4 := amt_bd hT h0 hd b1.1 b1.2
  have HU := Lib.hid (s_Divide p (T.D r k) (T.N r k) (by omega) (by omega) (by omega) (by omega) (by omega) (by omega) (by omega))
  have HN := Lib.hid (s_NK hT h0 h1 k)
  have HD := Lib.hid (s_DK hT h0 h1 k (by omega))
  replace HC := Lib.hid HC
  clear hz hn0
  generalize T.N r k = N at *
  generalize T.D r k = D at *
  generalize qd p D N = U at *
  generalize rm p D N = U2 at *
  go_enter Try.func110, Try.ntmps110
  go_wp2_with (first | (go_at_call 226; (with_reducible refine (HC.out _ _ (hv'.up (by repeat' (first | (with_reducible exact Up.refl _) | (with_reducible assumption) | (with_reducible refine Up.alloc ?_ _) | (with_reducible refine Up.drew ?_) | (with_reducible refine Up.grow ?_ _) | (with_reducible refine Up.setCell ?_ (by (try simp); (try omega)) _))))).mono ?_); rintro e w' ⟨rfl, hb⟩; first | (obtain ⟨x, rfl⟩ := Grow.on x hb) | (obtain ⟨x, rfl⟩ := Grow.mk' hb)) | (go_at_call 199; (with_reducible refine (HN.out _ _ (hv'.up (by repeat' (first | (with_reducible exact Up.refl _) | (with_reducible assumption) | (with_reducible refine Up.alloc ?_ _) | (with_reducible refine Up.drew ?_) | (with_reducible refine Up.grow ?_ _) | (with_reducible refine Up.setCell ?_ (by (try simp); (try omega)) _))))).mono ?_); rintro e w' ⟨rfl, hb⟩; first | (obtain ⟨x, rfl⟩ := Grow.on x hb) | (obtain ⟨x, rfl⟩ := Grow.mk' hb)) | (go_at_call 152; (with_reducible refine (HD.out _ _ (hv'.up (by repeat' (first | (with_reducible exact Up.refl _) | (with_reducible assumption) | (with_reducible refine Up.alloc ?_ _) | (with_reducible refine Up.drew ?_) | (with_reducible refine Up.grow ?_ _) | (with_reducible refine Up.setCell ?_ (by (try simp); (try omega)) _))))).mono ?_); rintro e w' ⟨rfl, hb⟩; first | (obtain ⟨x, rfl⟩ := Grow.on x hb) | (obtain ⟨x, rfl⟩ := Grow.mk' hb)) | (go_at_call 232; (with_reducible refine (HU.out _).mono ?_); rintro e w' ⟨rfl, rfl⟩) | (go_at_call 142; (with_reducible refine (s_In _ _ _ _).mono ?_); rintro e w' ⟨rfl, rfl⟩) | (go_at_call 186; (with_reducible refine (i_In _ _ _ _).mono ?_); rintro e w' ⟨rfl, rfl⟩) | (go_at_call 222; (with_reducible refine (s_Rate _ _).mono ?_); rintro e w' ⟨rfl, rfl⟩) | (go_at_call 165; (with_reducible refine (i_Rate _ _).mono ?_); rintro e w' ⟨rfl, rfl⟩) | (go_at_call 262; (with_reducible refine (i_Years _ _).mono ?_); rintro e w' ⟨rfl, rfl⟩) | (go_at_call 227; (with_reducible refine (s_Amount6 _ _).mono ?_); rintro e w' ⟨rfl, rfl⟩) | (go_at_call 236; (with_reducible refine (s_Sum7 _ _).mono ?_); rintro e w' ⟨rfl, rfl⟩) | ((first | with_reducible refine wp_region_in x (by kernel_rfl) (by kernel_rfl) ?_ | with_reducible refine wp_region_here (by kernel_rfl) (by kernel_rfl) ?_); (repeat (go_big_quiet_step ((first | (go_at_call 226; with_reducible exact Ret.grow _ (HC.out _ _ (hv'.up (by repeat' (first | (with_reducible exact Up.refl _) | (with_reducible assumption) | (with_reducible refine Up.alloc ?_ _) | (with_reducible refine Up.drew ?_) | (with_reducible refine Up.grow ?_ _) | (with_reducible refine Up.setCell ?_ (by (try simp); (try omega)) _)))))) | (go_at_call 199; with_reducible exact Ret.grow _ (HN.out _ _ (hv'.up (by repeat' (first | (with_reducible exact Up.refl _) | (with_reducible assumption) | (with_reducible refine Up.alloc ?_ _) | (with_reducible refine Up.drew ?_) | (with_reducible refine Up.grow ?_ _) | (with_reducible refine Up.setCell ?_ (by (try simp); (try omega)) _)))))) | (go_at_call 152; with_reducible exact Ret.grow _ (HD.out _ _ (hv'.up (by repeat' (first | (with_reducible exact Up.refl _) | (with_reducible assumption) | (with_reducible refine Up.alloc ?_ _) | (with_reducible refine Up.drew ?_) | (with_reducible refine Up.grow ?_ _) | (with_reducible refine Up.setCell ?_ (by (try simp); (try omega)) _)))))) | (go_at_call 232; with_reducible exact Ret.same _ (HU.out _)) | (go_at_call 142; with_reducible exact Ret.same _ (s_In _ _ _ _)) | (go_at_call 186; with_reducible exact Ret.same _ (i_In _ _ _ _)) | (go_at_call 222; with_reducible exact Ret.same _ (s_Rate _ _)) | (go_at_call 165; with_reducible exact Ret.same _ (i_Rate _ _)) | (go_at_call 262; with_reducible exact Ret.same _ (i_Years _ _)) | (go_at_call 227; with_reducible exact Ret.same _ (s_Amount6 _ _)) | (go_at_call 236; with_reducible exact Ret.same _ (s_Sum7 _ _)))))); refine wpQuiet_nil ?_; intro w' hw'; obtain ⟨x, rfl⟩ := hw'))
  go_ret2
  exact ⟨rfl, (by repeat' (first | (with_reducible exact Up.refl _) | (with_reducible assumption) | (with_reducible refine Up.alloc ?_ _) | (with_reducible refine Up.drew ?_) | (with_reducible refine Up.grow ?_ _) | (with_reducible refine Up.setCell ?_ (by (try simp); (try omega)) _)))⟩

/-! ### the list of prices -/
open Classical in
noncomputable def prC (T : Tab) (r m : Int) : Int := if code6 T r T.first (inR m 1 1000000) 0 = 0 then (if T.D r (T.n - 2) = 0 then 5 else 0) else code6 T r T.first (inR m 1 1000000) 0
def prG (T : Tab) (r m : Int) (k : Nat) : Int := up m (T.N r k) (T.D r k)
open Classical in
noncomputable def prL (T : Tab) (r m : Int) : List Int := if prC T r m = 0 then (List.range (T.n - 1)).map (prG T r m) else []

set_option maxRecDepth 100000 in
set_option maxHeartbeats 1000000 in
theorem s_Prices (T : Tab) (r m : Int) (v : Value) (w : World) (hv : TabAt w T v) :
    Calls Try.prog 114 #[v, .int .i64 r, .int .i64 m] w (RetIC w (prL T r m) (prC T r m)) := by
  have hv' := hv
  obtain ⟨A, c, rfl, hc, hm, _, hI⟩ := hv
  have HC := s_Code6 T r T.first (inR m 1 1000000) 0
  by_cases hz : code6 T r T.first (inR m 1 1000000) 0 = 0
  case neg =>
    have e1 : prC T r m = code6 T r T.first (inR m 1 1000000) 0 := by unfold prC; rw [if_neg hz]
    have e2 : prL T r m = [] := by unfold prL; rw [e1, if_neg hz]
    rw [e1, e2]
    clear e1 e2
    replace HC := Lib.hid HC
    (have hz1 : ((code6 T r T.first (inR m 1 1000000) 0) != 0) = true := (by simpa using hz)); (have hz2 : ((code6 T r T.first (inR m 1 1000000) 0) == 0) = false := (by simpa using hz))
    clear hz
    go_enter Try.func114, Try.ntmps114
    go_wp2_with (first | (go_at_call 226; (with_reducible refine (HC.out _ _ (hv'.up (by repeat' (first | (with_reducible exact Up.refl _) | (with_reducible assumption) | (with_reducible refine Up.alloc ?_ _) | (with_reducible refine Up.drew ?_) | (with_reducible refine Up.grow ?_ _) | (with_reducible refine Up.setCell ?_ (by (try simp); (try omega)) _))))).mono ?_); rintro e w' ⟨rfl, hb⟩; first | (obtain ⟨x, rfl⟩ := Grow.on x hb) | (obtain ⟨x, rfl⟩ := Grow.mk' hb)) | (go_at_call 142; (with_reducible refine (s_In _ _ _ _).mono ?_); rintro e w' ⟨rfl, rfl⟩) | (go_at_call 186; (with_reducible refine (i_In _ _ _ _).mono ?_); rintro e w' ⟨rfl, rfl⟩) | (go_at_call 222; (with_reducible refine (s_Rate _ _).mono ?_); rintro e w' ⟨rfl, rfl⟩) | (go_at_call 165; (with_reducible refine (i_Rate _ _).mono ?_); rintro e w' ⟨rfl, rfl⟩) | (go_at_call 262; (with_reducible refine (i_Years _ _).mono ?_); rintro e w' ⟨rfl, rfl⟩) | (go_at_call 227; (with_reducible refine (s_Amount6 _ _).mono ?_); rintro e w' ⟨rfl, rfl⟩) | (go_at_call 236; (with_reducible refine (s_Sum7 _ _).mono ?_); rintro e w' ⟨rfl, rfl⟩) | ((first | with_reducible refine wp_region_in x (by kernel_rfl) (by kernel_rfl) ?_ | with_reducible refine wp_region_here (by kernel_rfl) (by kernel_rfl) ?_); (repeat (go_big_quiet_step ((first | (go_at_call 226; with_reducible exact Ret.grow _ (HC.out _ _ (hv'.up (by repeat' (first | (with_reducible exact Up.refl _) | (with_reducible assumption) | (with_reducible refine Up.alloc ?_ _) | (with_reducible refine Up.drew ?_) | (with_reducible refine Up.grow ?_ _) | (with_reducible refine Up.setCell ?_ (by (try simp); (try omega)) _)))))) | (go_at_call 142; with_reducible exact Ret.same _ (s_In _ _ _ _)) | (go_at_call 186; with_reducible exact Ret.same _ (i_In _ _ _ _)) | (go_at_call 222; with_reducible exact Ret.same _ (s_Rate _ _)) | (go_at_call 165; with_reducible exact Ret.same _ (i_Rate _ _)) | (go_at_call 262; with_reducible exact Ret.same _ (i_Years _ _)) | (go_at_call 227; with_reducible exact Ret.same _ (s_Amount6 _ _)) | (go_at_call 236; with_reducible exact Ret.same _ (s_Sum7 _ _)))))); refine wpQuiet_nil ?_; intro w' hw'; obtain ⟨x, rfl⟩ := hw'))
    go_ret2
    exact ⟨_, rfl, (by repeat' (first | (with_reducible exact Up.refl _) | (with_reducible assumption) | (with_reducible refine Up.alloc ?_ _) | (with_reducible refine Up.drew ?_) | (with_reducible refine Up.grow ?_ _) | (with_reducible refine Up.setCell ?_ (by (try simp); (try omega)) _))), Own.nil _ _⟩
  rw [hz] at HC
  obtain ⟨hT, h0, h1, hm1, k0, n0, hk0, hn0, hn1, hl, hd⟩ := code6_ok hz
  obtain rfl : k0 = 0 := by omega
  have b1 := inR_true.1 hm1
  clear hm1
  have q1 := hT.lo; have q2 := hT.hi; have q3 := hT.n120; have q4 := hT.n2; have q5 := hT.fin
  replace HC := Lib.hid HC
  have e0 : prC T r m = if T.D r (T.n - 2) = 0 then 5 else 0 := by unfold prC; rw [if_pos hz]
  clear hz hk0 hn0 hn1
  have E0 := Lib.hid e0
  clear e0
  go_enter Try.func114, Try.ntmps114
  go_wp2_with (first | (go_at_call 226; (with_reducible refine (HC.out _ _ (hv'.up (by repeat' (first | (with_reducible exact Up.refl _) | (with_reducible assumption) | (with_reducible refine Up.alloc ?_ _) | (with_reducible refine Up.drew ?_) | (with_reducible refine Up.grow ?_ _) | (with_reducible refine Up.setCell ?_ (by (try simp); (try omega)) _))))).mono ?_); rintro e w' ⟨rfl, hb⟩; first | (obtain ⟨x, rfl⟩ := Grow.on x hb) | (obtain ⟨x, rfl⟩ := Grow.mk' hb)) | (go_at_call 142; (with_reducible refine (s_In _ _ _ _).mono ?_); rintro e w' ⟨rfl, rfl⟩) | (go_at_call 186; (with_reducible refine (i_In _ _ _ _).mono ?_); rintro e w' ⟨rfl, rfl⟩) | (go_at_call 222; (with_reducible refine (s_Rate _ _).mono ?_); rintro e w' ⟨rfl, rfl⟩) | (go_at_call 165; (with_reducible refine (i_Rate _ _).mono ?_); rintro e w' ⟨rfl, rfl⟩) | (go_at_call 262; (with_reducible refine (i_Years _ _).mono ?_); rintro e w' ⟨rfl, rfl⟩) | (go_at_call 227; (with_reducible refine (s_Amount6 _ _).mono ?_); rintro e w' ⟨rfl, rfl⟩) | (go_at_call 236; (with_reducible refine (s_Sum7 _ _).mono ?_); rintro e w' ⟨rfl, rfl⟩) | ((first | with_reducible refine wp_region_in x (by kernel_rfl) (by kernel_rfl) ?_ | with_reducible refine wp_region_here (by kernel_rfl) (by kernel_rfl) ?_); (repeat (go_big_quiet_step ((first | (go_at_call 226; with_reducible exact Ret.grow _ (HC.out _ _ (hv'.up (by repeat' (first | (with_reducible exact Up.refl _) | (with_reducible assumption) | (with_reducible refine Up.alloc ?_ _) | (with_reducible refine Up.drew ?_) | (with_reducible refine Up.grow ?_ _) | (with_reducible refine Up.setCell ?_ (by (try simp); (try omega)) _)))))) | (go_at_call 142; with_reducible exact Ret.same _ (s_In _ _ _ _)) | (go_at_call 186; with_reducible exact Ret.same _ (i_In _ _ _ _)) | (go_at_call 222; with_reducible exact Ret.same _ (s_Rate _ _)) | (go_at_call 165; with_reducible exact Ret.same _ (i_Rate _ _)) | (go_at_call 262; with_reducible exact Ret.same _ (i_Years _ _)) | (go_at_call 227; with_reducible exact Ret.same _ (s_Amount6 _ _)) | (go_at_call 236; with_reducible exact Ret.same _ (s_Sum7 _ _)))))); refine wpQuiet_nil ?_; intro w' hw'; obtain ⟨x, rfl⟩ := hw'))
  go_loopw [9, 10] (fun o i wr => ∃ (k : Nat) (y : Grow (w.alloc (.cells #[.int .i64 T.first, .slice A T.n c] 31))), k + 1 ≤ T.n ∧ i = .int .i64 (T.first + k) ∧ wr = y.to ∧ (k = 0 ∨ 1 ≤ T.D r (k - 1)) ∧ Own (w.alloc (.cells #[.int .i64 T.first, .slice A T.n c] 31)) y.to o ((List.range k).map (prG T r m))) (fun _ i _ => (T.first + T.n - intOf i).toNat)
  case atStart =>
    obtain ⟨y, hy⟩ := Grow.mk' (show Below (w.alloc (.cells #[.int .i64 T.first, .slice A T.n c] 31)).heap.size (w.alloc (.cells #[.int .i64 T.first, .slice A T.n c] 31)) (x.to.alloc (.cells #[] 2)) from x.below.alloc x.size _)
    exact ⟨0, y, by omega, by simp, hy, Or.inl rfl, by rw [← hy]; exact Own.start _ x.size⟩
  case round =>

    obtain ⟨k, x, hk, rfl, rfl, hpos, hown⟩ := hrel
    have HO := Lib.hid hown
    have HP := Lib.hid hpos
    clear hown hpos
    by_cases hlt : k + 1 < T.n
    · have HD := Lib.hid (s_DK hT h0 h1 k (by omega))
      have HN := Lib.hid (s_NK hT h0 h1 k)
      by_cases hdz : T.D r k = 0
      · have e1 : T.D r (T.n - 2) = 0 := by
          have h1 := hT.D_le h0 k (T.n - 2 - k)
          have h2 := (hT.D_bd h0 (T.n - 2)).1
          rw [show k + (T.n - 2 - k) = T.n - 2 from by omega, hdz] at h1
          omega
        have e2 : prC T r m = 5 := by rw [E0.out, if_pos e1]
        have e3 : prL T r m = [] := by unfold prL; rw [e2, if_neg (by omega)]
        rw [e2, e3]
        rw [hdz] at HD
        clear e1 e2 e3 hdz hd
        go_wp2_with (first | (go_at_call 179; refine (s_End hT _ _ (hv'.up (by repeat' (first | (with_reducible exact Up.refl _) | (with_reducible assumption) | (with_reducible refine Up.alloc ?_ _) | (with_reducible refine Up.drew ?_) | (with_reducible refine Up.grow ?_ _) | (with_reducible refine Up.setCell ?_ (by (try simp); (try omega)) _))))).mono ?_; rintro e w' ⟨rfl, hb⟩; first | (obtain ⟨x, rfl⟩ := Grow.on x hb) | (obtain ⟨x, rfl⟩ := Grow.mk' hb)) | (go_at_call 152; refine (HD.out _ _ (hv'.up (by repeat' (first | (with_reducible exact Up.refl _) | (with_reducible assumption) | (with_reducible refine Up.alloc ?_ _) | (with_reducible refine Up.drew ?_) | (with_reducible refine Up.grow ?_ _) | (with_reducible refine Up.setCell ?_ (by (try simp); (try omega)) _))))).mono ?_; rintro e w' ⟨rfl, hb⟩; first | (obtain ⟨x, rfl⟩ := Grow.on x hb) | (obtain ⟨x, rfl⟩ := Grow.mk' hb)))
        go_ret2
        exact ⟨_, rfl, (by repeat' (first | (with_reducible exact Up.refl _) | (with_reducible assumption) | (with_reducible refine Up.alloc ?_ _) | (with_reducible refine Up.drew ?_) | (with_reducible refine Up.grow ?_ _) | (with_reducible refine Up.setCell ?_ (by (try simp); (try omega)) _))), Own.nil _ _⟩
      · have hdp : 1 ≤ T.D r k := by have := (hT.D_bd h0 k).1; omega
        have b2 := hT.N_bd h0 k
        have b3 := hT.N_max h0 k
        have b4 := hT.D_bd h0 k
        have b5 := qd_200 (a := m) (m := 1000000) (by omega) (by omega) b2.1 hdp (by omega)
        have HU := Lib.hid (s_Up m (T.N r k) (T.D r k) (by omega) (by omega) (by omega) (by omega) (by omega) (by omega) (by omega))
        have EU : Hid (prG T r m k = up m (T.N r k) (T.D r k)) := Lib.hid rfl
        have E := Lib.hid (range_snoc (prG T r m) k)
        have HDP := Lib.hid hdp
        have hdz1 : (T.D r k == 0) = false := by simpa using hdz
        clear hdz hdp hd b2 b3 b4 b5
        go_wp2_with (first | (go_at_call 179; refine (s_End hT _ _ (hv'.up (by repeat' (first | (with_reducible exact Up.refl _) | (with_reducible assumption) | (with_reducible refine Up.alloc ?_ _) | (with_reducible refine Up.drew ?_) | (with_reducible refine Up.grow ?_ _) | (with_reducible refine Up.setCell ?_ (by (try simp); (try omega)) _))))).mono ?_; rintro e w' ⟨rfl, hbE⟩; obtain ⟨xe, rfl⟩ := Grow.on x hbE) | (go_at_call 152; refine (HD.out _ _ (hv'.up (by repeat' (first | (with_reducible exact Up.refl _) | (with_reducible assumption) | (with_reducible refine Up.alloc ?_ _) | (with_reducible refine Up.drew ?_) | (with_reducible refine Up.grow ?_ _) | (with_reducible refine Up.setCell ?_ (by (try simp); (try omega)) _))))).mono ?_; rintro e w' ⟨rfl, hbT⟩; obtain ⟨xt, rfl⟩ := Grow.on xe hbT))
        generalize up m (T.N r k) (T.D r k) = U at *
        go_region_held3 (fun w' => w'.cell? ⟨w.heap.size, 0, none⟩ = some (.int .i64 T.first) ∧ w'.cell? ⟨w.heap.size, 1, none⟩ = some (.slice A T.n c)) ((repeat' apply And.intro) <;> go_simp)
          (first
            | (go_at_call 199; refine (HN.out _ _ (hv'.up (by repeat' (first | (with_reducible exact Up.refl _) | (with_reducible assumption) | (with_reducible refine Up.alloc ?_ _) | (with_reducible refine Up.drew ?_) | (with_reducible refine Up.grow ?_ _) | (with_reducible refine Up.setCell ?_ (by (try simp); (try omega)) _))))).mono ?_; rintro e w' ⟨rfl, hbN0⟩; have hbN := (Up.drew (Up.refl xt.to)).trans hbN0; obtain ⟨x1, rfl⟩ := Grow.on xt hbN)
            | (go_at_call 152; refine (HD.out _ _ (hv'.up (by repeat' (first | (with_reducible exact Up.refl _) | (with_reducible assumption) | (with_reducible refine Up.alloc ?_ _) | (with_reducible refine Up.drew ?_) | (with_reducible refine Up.grow ?_ _) | (with_reducible refine Up.setCell ?_ (by (try simp); (try omega)) _))))).mono ?_; rintro e w' ⟨rfl, hbD⟩; obtain ⟨x2, rfl⟩ := Grow.on x1 hbD)
            | (go_at_call 158; refine (HU.out _).mono ?_; rintro e w' ⟨rfl, rfl⟩)
            | (have hup : Up x.to x2.to := ((hbE.trans hbT).trans hbN).trans hbD; have hlen : ((List.range k).map (prG T r m)).length < 1048576 := (by simp; omega); refine step_push x2.below (HO.out.up hup) rfl _ _ rfl rfl rfl hlen ?_; intro v' y hown2 hg2))
        go_wp2
        go_roundw
        case rel =>
          exact ⟨k + 1, y, by omega, by go_num, rfl, Or.inr HDP.out, by rw [E.out, EU.out]; exact hown2⟩
        case measure => simp [intOf]; omega
    · have hk2 : k = T.n - 1 := by omega
      have e1 : ¬ T.D r (T.n - 2) = 0 := by
        rcases HP.out with h | h
        · omega
        · rw [show k - 1 = T.n - 2 from by omega] at h; omega
      have e2 : prC T r m = 0 := by rw [E0.out, if_neg e1]
      have e3 : prL T r m = (List.range (T.n - 1)).map (prG T r m) := by unfold prL; rw [e2, if_pos rfl]
      have E2 := Lib.hid e2
      have E3 := Lib.hid e3
      clear e1 e2 e3 hd
      have HK := Lib.hid hk2
      clear hk2
      go_wp2_with (go_at_call 179; refine (s_End hT _ _ (hv'.up (by repeat' (first | (with_reducible exact Up.refl _) | (with_reducible assumption) | (with_reducible refine Up.alloc ?_ _) | (with_reducible refine Up.drew ?_) | (with_reducible refine Up.grow ?_ _) | (with_reducible refine Up.setCell ?_ (by (try simp); (try omega)) _))))).mono ?_; rintro e w' ⟨rfl, hb⟩; first | (obtain ⟨x, rfl⟩ := Grow.on x hb) | (obtain ⟨x, rfl⟩ := Grow.mk' hb))
      go_ret2
      rw [E2.out, E3.out, ← HK.out]
      exact ⟨_, rfl, (by repeat' (first | (with_reducible exact Up.refl _) | (with_reducible assumption) | (with_reducible refine Up.alloc ?_ _) | (with_reducible refine Up.drew ?_) | (with_reducible refine Up.grow ?_ _) | (with_reducible refine Up.setCell ?_ (by (try simp); (try omega)) _))), (HO.out.up hb).base (by simp)⟩
end Go.Proofs.Ytdeoampkbbbleaa
