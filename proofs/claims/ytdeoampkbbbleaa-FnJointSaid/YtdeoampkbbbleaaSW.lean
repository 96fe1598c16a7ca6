/- Contracts of the reference's greatest common factors, fractions and expected years. Condition: the slices read as the tables' numbers. -/
import Derived.Test.YtdeoampkbbbleaaAges
namespace Go.Proofs.Ytdeoampkbbbleaa
open Go.RowKit Pu

theorem s_Factor (b a : Nat) (ha : a ≤ 1000000000000000000) (hb : b ≤ 1000000000000000000) (w : World) : Calls Try.prog 254 #[.int .i64 a, .int .i64 b] w fun e w' => e = .returned (.int .i64 (Nat.gcd a b : Nat)) ∧ w = w' := by
  induction b using Nat.strongRecOn generalizing a with
  | ind b ih =>
    by_cases hz : b = 0
    · subst hz
      rw [Nat.gcd_zero_right]
      go_enter Try.func254, Try.ntmps254
      go_wp2
      go_ret
      exact ⟨rfl, rfl⟩
    · have hlt := Nat.mod_lt a (show b > 0 by omega)
      have h := ih (a % b) hlt b hb (by omega)
      rw [← gcd_step] at h
      have i1 : (a : Int) % (b : Int) = ((a % b : Nat) : Int) := (Int.natCast_emod _ _).symm
      have i2 : (a : Int).tmod b = ((a % b : Nat) : Int) := by rw [Int.tmod_eq_emod_of_nonneg (by omega), i1]
      have i3 : IntKind.i64.wrap ((a % b : Nat) : Int) = ((a % b : Nat) : Int) := IntWalk.i64_in _ (by omega)
      have hz1 : ((b : Int) == 0) = false := by simpa using hz
      generalize Nat.gcd a b = G at *
      generalize a % b = R at *
      have HF := Lib.hid h
      clear ih h
      go_enter Try.func254, Try.ntmps254
      go_wp2_with (go_at_call 254; (with_reducible refine (HF.out).mono ?_); rintro e w' ⟨rfl, rfl⟩)
      go_ret
      exact ⟨rfl, rfl⟩
theorem i_Factor (a b : Nat) (ha : a ≤ 1000000000000000000) (hb : b ≤ 1000000000000000000) (w : World) : Calls Try.prog 187 #[.int .i64 a, .int .i64 b] w (Ret w (.int .i64 (Nat.gcd a b : Nat))) := by
  obtain ⟨G, hG⟩ : ∃ G, Nat.gcd a b = G := ⟨_, rfl⟩
  rw [hG]
  have HG := Lib.hid hG
  clear hG
  go_enter Try.func187, Try.ntmps187
  go_wp2
  go_loopw [0, 1] (fun x y wr => ∃ (p q : Nat) (z : Grow w), p ≤ 1000000000000000000 ∧ q ≤ 1000000000000000000 ∧ Hid (Nat.gcd p q = G) ∧ x = .int .i64 p ∧ y = .int .i64 q ∧ wr = z.to) (fun _ y _ => (intOf y).toNat)
  case atStart => exact ⟨a, b, ⟨w, Below.refl _ _⟩, ha, hb, HG, rfl, rfl, rfl⟩
  case round =>
    obtain ⟨p, q, z, hp, hq, HR, rfl, rfl, rfl⟩ := hrel
    by_cases hz : q = 0
    · subst hz
      have HR2 : Hid (p = G) := Lib.hid (by have := HR.out; rwa [Nat.gcd_zero_right] at this)
      go_wp2_with ((first | with_reducible refine wp_region_in x (by kernel_rfl) (by kernel_rfl) ?_ | with_reducible refine wp_region_here (by kernel_rfl) (by kernel_rfl) ?_); (repeat (go_big_quiet_step ((fail)))); refine wpQuiet_nil ?_; intro w' hw'; obtain ⟨x, rfl⟩ := hw')
      go_ret
      exact ⟨ret_int (by rw [HR2.out]), (by repeat' (first | (with_reducible exact Up.refl _) | (with_reducible assumption) | (with_reducible refine Up.alloc ?_ _) | (with_reducible refine Up.drew ?_) | (with_reducible refine Up.grow ?_ _) | (with_reducible refine Up.setCell ?_ (by (try simp); (try omega)) _)))⟩
    · have hlt := Nat.mod_lt p (show q > 0 by omega)
      have HR2 := HR.out
      rw [gcd_step] at HR2
      have i1 : (p : Int) % (q : Int) = ((p % q : Nat) : Int) := (Int.natCast_emod _ _).symm
      have i2 : (p : Int).tmod q = ((p % q : Nat) : Int) := by rw [Int.tmod_eq_emod_of_nonneg (by omega), i1]
      have i3 : IntKind.i64.wrap ((p % q : Nat) : Int) = ((p % q : Nat) : Int) := IntWalk.i64_in _ (by omega)
      have hz1 : ((q : Int) == 0) = false := by simpa using hz
      clear HR
      generalize p % q = R at *
      replace HR2 := Lib.hid HR2
      go_wp2_with ((first | with_reducible refine wp_region_in x (by kernel_rfl) (by kernel_rfl) ?_ | with_reducible refine wp_region_here (by kernel_rfl) (by kernel_rfl) ?_); (repeat (go_big_quiet_step ((fail)))); refine wpQuiet_nil ?_; intro w' hw'; obtain ⟨x, rfl⟩ := hw')
      go_roundw
      case rel => exact ⟨q, R, ⟨x.to, show Up _ x.to from (by repeat' (first | (with_reducible exact Up.refl _) | (with_reducible assumption) | (with_reducible refine Up.alloc ?_ _) | (with_reducible refine Up.drew ?_) | (with_reducible refine Up.grow ?_ _) | (with_reducible refine Up.setCell ?_ (by (try simp); (try omega)) _)))⟩, hq, by omega, HR2, rfl, rfl, rfl⟩
      case measure => simp [intOf]; omega
theorem s_Frac (a b : Nat) (hb1 : 1 ≤ b) (ha : a ≤ 1000000000000000000) (hb : b ≤ 1000000000000000000) (w : World) : Calls Try.prog 180 #[.int .i64 a, .int .i64 b] w (Ret w (.tuple #[.int .i64 (fA a b : Nat), .int .i64 (fB a b : Nat)])) := by
  have HF := Lib.hid (s_Factor b a ha hb)
  have hg := gcd_pos (a := a) hb1
  have h1 := fA_le a b; have h2 := fB_le a b
  have e3 : ((a : Int) / (Nat.gcd a b : Nat)) = (fA a b : Nat) := by rw [← Int.natCast_ediv]; rfl
  have e4 : ((b : Int) / (Nat.gcd a b : Nat)) = (fB a b : Nat) := by rw [← Int.natCast_ediv]; rfl
  have e1 : ((a : Int).tdiv (Nat.gcd a b : Nat)) = (fA a b : Nat) := by rw [Int.tdiv_eq_ediv_of_nonneg (by omega), e3]
  have e2 : ((b : Int).tdiv (Nat.gcd a b : Nat)) = (fB a b : Nat) := by rw [Int.tdiv_eq_ediv_of_nonneg (by omega), e4]
  generalize fA a b = X at *
  generalize fB a b = Y at *
  generalize Nat.gcd a b = G at *
  have hg1 : ((G : Int) == 0) = false := by simp; omega
  have i1 : IntKind.i64.wrap (X : Int) = X := IntWalk.i64_in _ (by omega)
  have i2 : IntKind.i64.wrap (Y : Int) = Y := IntWalk.i64_in _ (by omega)
  go_enter Try.func180, Try.ntmps180
  go_wp2_with (first | (go_at_call 254; (with_reducible refine (HF.out _).mono ?_); rintro e w' ⟨rfl, rfl⟩) | (go_at_call 142; (with_reducible refine (s_In _ _ _ _).mono ?_); rintro e w' ⟨rfl, rfl⟩) | (go_at_call 186; (with_reducible refine (i_In _ _ _ _).mono ?_); rintro e w' ⟨rfl, rfl⟩) | (go_at_call 222; (with_reducible refine (s_Rate _ _).mono ?_); rintro e w' ⟨rfl, rfl⟩) | (go_at_call 165; (with_reducible refine (i_Rate _ _).mono ?_); rintro e w' ⟨rfl, rfl⟩) | (go_at_call 262; (with_reducible refine (i_Years _ _).mono ?_); rintro e w' ⟨rfl, rfl⟩) | (go_at_call 227; (with_reducible refine (s_Amount6 _ _).mono ?_); rintro e w' ⟨rfl, rfl⟩) | (go_at_call 236; (with_reducible refine (s_Sum7 _ _).mono ?_); rintro e w' ⟨rfl, rfl⟩) | ((first | with_reducible refine wp_region_in x (by kernel_rfl) (by kernel_rfl) ?_ | with_reducible refine wp_region_here (by kernel_rfl) (by kernel_rfl) ?_); (repeat (go_big_quiet_step ((first | (go_at_call 254; with_reducible exact Ret.same _ (HF.out _)) | (go_at_call 142; with_reducible exact Ret.same _ (s_In _ _ _ _)) | (go_at_call 186; with_reducible exact Ret.same _ (i_In _ _ _ _)) | (go_at_call 222; with_reducible exact Ret.same _ (s_Rate _ _)) | (go_at_call 165; with_reducible exact Ret.same _ (i_Rate _ _)) | (go_at_call 262; with_reducible exact Ret.same _ (i_Years _ _)) | (go_at_call 227; with_reducible exact Ret.same _ (s_Amount6 _ _)) | (go_at_call 236; with_reducible exact Ret.same _ (s_Sum7 _ _)))))); refine wpQuiet_nil ?_; intro w' hw'; obtain ⟨x, rfl⟩ := hw'))
  go_ret2
  exact ⟨rfl, (by repeat' (first | (with_reducible exact Up.refl _) | (with_reducible assumption) | (with_reducible refine Up.alloc ?_ _) | (with_reducible refine Up.drew ?_) | (with_reducible refine Up.grow ?_ _) | (with_reducible refine Up.setCell ?_ (by (try simp); (try omega)) _)))⟩
theorem i_Frac (a b : Nat) (hb1 : 1 ≤ b) (ha : a ≤ 1000000000000000000) (hb : b ≤ 1000000000000000000) (w : World) : Calls Try.prog 176 #[.int .i64 a, .int .i64 b] w (Ret w (.tuple #[.int .i64 (fA a b : Nat), .int .i64 (fB a b : Nat)])) := by
  have HF := Lib.hid (i_Factor a b ha hb)
  have hg := gcd_pos (a := a) hb1
  have h1 := fA_le a b; have h2 := fB_le a b
  have e3 : ((a : Int) / (Nat.gcd a b : Nat)) = (fA a b : Nat) := by rw [← Int.natCast_ediv]; rfl
  have e4 : ((b : Int) / (Nat.gcd a b : Nat)) = (fB a b : Nat) := by rw [← Int.natCast_ediv]; rfl
  have e1 : ((a : Int).tdiv (Nat.gcd a b : Nat)) = (fA a b : Nat) := by rw [Int.tdiv_eq_ediv_of_nonneg (by omega), e3]
  have e2 : ((b : Int).tdiv (Nat.gcd a b : Nat)) = (fB a b : Nat) := by rw [Int.tdiv_eq_ediv_of_nonneg (by omega), e4]
  generalize fA a b = X at *
  generalize fB a b = Y at *
  generalize Nat.gcd a b = G at *
  have hg1 : ((G : Int) == 0) = false := by simp; omega
  have i1 : IntKind.i64.wrap (X : Int) = X := IntWalk.i64_in _ (by omega)
  have i2 : IntKind.i64.wrap (Y : Int) = Y := IntWalk.i64_in _ (by omega)
  go_enter Try.func176, Try.ntmps176
  go_wp2_with (first | (go_at_call 187; (with_reducible refine (HF.out _).mono ?_); rintro e w' ⟨rfl, hb⟩; first | (obtain ⟨x, rfl⟩ := Grow.on x hb) | (obtain ⟨x, rfl⟩ := Grow.mk' hb)) | (go_at_call 142; (with_reducible refine (s_In _ _ _ _).mono ?_); rintro e w' ⟨rfl, rfl⟩) | (go_at_call 186; (with_reducible refine (i_In _ _ _ _).mono ?_); rintro e w' ⟨rfl, rfl⟩) | (go_at_call 222; (with_reducible refine (s_Rate _ _).mono ?_); rintro e w' ⟨rfl, rfl⟩) | (go_at_call 165; (with_reducible refine (i_Rate _ _).mono ?_); rintro e w' ⟨rfl, rfl⟩) | (go_at_call 262; (with_reducible refine (i_Years _ _).mono ?_); rintro e w' ⟨rfl, rfl⟩) | (go_at_call 227; (with_reducible refine (s_Amount6 _ _).mono ?_); rintro e w' ⟨rfl, rfl⟩) | (go_at_call 236; (with_reducible refine (s_Sum7 _ _).mono ?_); rintro e w' ⟨rfl, rfl⟩) | ((first | with_reducible refine wp_region_in x (by kernel_rfl) (by kernel_rfl) ?_ | with_reducible refine wp_region_here (by kernel_rfl) (by kernel_rfl) ?_); (repeat (go_big_quiet_step ((first | (go_at_call 187; with_reducible exact Ret.grow _ (HF.out _)) | (go_at_call 142; with_reducible exact Ret.same _ (s_In _ _ _ _)) | (go_at_call 186; with_reducible exact Ret.same _ (i_In _ _ _ _)) | (go_at_call 222; with_reducible exact Ret.same _ (s_Rate _ _)) | (go_at_call 165; with_reducible exact Ret.same _ (i_Rate _ _)) | (go_at_call 262; with_reducible exact Ret.same _ (i_Years _ _)) | (go_at_call 227; with_reducible exact Ret.same _ (s_Amount6 _ _)) | (go_at_call 236; with_reducible exact Ret.same _ (s_Sum7 _ _)))))); refine wpQuiet_nil ?_; intro w' hw'; obtain ⟨x, rfl⟩ := hw'))
  go_ret2
  exact ⟨rfl, (by repeat' (first | (with_reducible exact Up.refl _) | (with_reducible assumption) | (with_reducible refine Up.alloc ?_ _) | (with_reducible refine Up.drew ?_) | (with_reducible refine Up.grow ?_ _) | (with_reducible refine Up.setCell ?_ (by (try simp); (try omega)) _)))⟩
set_option maxRecDepth 100000 in
set_option maxHeartbeats 2000000 in
theorem s_EY {T : Tab} (hT : T.Ok) (k : Nat) (hk : k + 1 < T.n) (v : Value) (w : World) (hv : TabAt w T v) :
    Calls Try.prog 55 #[v, .int .i64 (T.first + k)] w (Ret w (.tuple #[.int .i64 (eyA T k : Nat), .int .i64 (eyB T k : Nat), .int .i64 0])) := by
  have hv' := hv
  obtain ⟨A, c, rfl, hc, hm, _, hI⟩ := hv
  have q1 := hT.lo; have q2 := hT.hi; have q3 := hT.n120; have q4 := hT.fin
  have hl := hT.lv_pos hk
  have hlb := hT.lv_bd k
  have hyb := hT.yrs_bd k
  have HC := s_CodeA T (T.first + k)
  rw [aC_in hT (by omega)] at HC
  replace HC := Lib.hid HC
  have HL := Lib.hid (s_LivesA hT k (by omega))
  have HE := Lib.hid (s_End hT)
  have HX (j : Nat) (hj : j ≤ 200) : ∀ v w, TabAt w T v → Calls Try.prog 157 #[v, .int .i64 (T.first + k + 1 + j)] w (Ret w (.int .i64 (T.lv (k + 1 + j)))) := fun v w hv => by
    have h := s_LivesA hT (k + 1 + j) (by omega) v w hv
    rwa [show T.first + ((k + 1 + j : Nat) : Int) = T.first + k + 1 + j from by omega] at h
  replace HX := Lib.hid HX
  have HF : ∀ w, Calls Try.prog 180 #[.int .i64 (T.yrs k), .int .i64 (T.lv k)] w (Ret w (.tuple #[.int .i64 (eyA T k : Nat), .int .i64 (eyB T k : Nat)])) := fun w => by
    have h := s_Frac (T.yrs k).toNat (T.lv k).toNat (by omega) (by omega) (by omega) w
    rwa [show (((T.yrs k).toNat : Nat) : Int) = T.yrs k from by omega, show (((T.lv k).toNat : Nat) : Int) = T.lv k from by omega] at h
  replace HF := Lib.hid HF
  have HS (m : Nat) := hT.yrs_part k m
  replace HS := Lib.hid HS
  have hl1 : (T.lv k == 0) = false := by simp; omega
  have HLV (m : Nat) := hT.lv_bd m
  replace HLV := Lib.hid HLV
  have i1 : IntKind.i64.wrap (T.first + k + 1) = T.first + k + 1 := IntWalk.i64_in _ (by omega)
  have HEY : Hid (T.yrs k = S T.lv (k + 1) (T.n - 2 - k)) := Lib.hid rfl
  have HZ := Lib.hid (S_zero' T.lv (k + 1))
  have HSS := Lib.hid (S_succ T.lv (k + 1))
  obtain ⟨M, hM⟩ : ∃ M, T.n - 2 - k = M := ⟨_, rfl⟩
  rw [hM] at HEY
  have hM2 : (M : Int) = T.n - 2 - k := by omega
  generalize T.yrs k = YR at *
  generalize S T.lv (k + 1) = Z at *
  generalize eyA T k = X at *
  generalize eyB T k = Y at *
  clear hl hlb hyb
  go_enter Try.func55, Try.ntmps55
  go_wp2_with (first | (go_at_call 178; (with_reducible refine (HC.out _ _ (hv'.up (by repeat' (first | (with_reducible exact Up.refl _) | (with_reducible assumption) | (with_reducible refine Up.alloc ?_ _) | (with_reducible refine Up.drew ?_) | (with_reducible refine Up.grow ?_ _) | (with_reducible refine Up.setCell ?_ (by (try simp); (try omega)) _))))).mono ?_); rintro e w' ⟨rfl, hb⟩; first | (obtain ⟨x, rfl⟩ := Grow.on x hb) | (obtain ⟨x, rfl⟩ := Grow.mk' hb)) | (go_at_call 157; (with_reducible refine (HL.out _ _ (hv'.up (by repeat' (first | (with_reducible exact Up.refl _) | (with_reducible assumption) | (with_reducible refine Up.alloc ?_ _) | (with_reducible refine Up.drew ?_) | (with_reducible refine Up.grow ?_ _) | (with_reducible refine Up.setCell ?_ (by (try simp); (try omega)) _))))).mono ?_); rintro e w' ⟨rfl, hb⟩; first | (obtain ⟨x, rfl⟩ := Grow.on x hb) | (obtain ⟨x, rfl⟩ := Grow.mk' hb)) | (go_at_call 142; (with_reducible refine (s_In _ _ _ _).mono ?_); rintro e w' ⟨rfl, rfl⟩) | (go_at_call 186; (with_reducible refine (i_In _ _ _ _).mono ?_); rintro e w' ⟨rfl, rfl⟩) | (go_at_call 222; (with_reducible refine (s_Rate _ _).mono ?_); rintro e w' ⟨rfl, rfl⟩) | (go_at_call 165; (with_reducible refine (i_Rate _ _).mono ?_); rintro e w' ⟨rfl, rfl⟩) | (go_at_call 262; (with_reducible refine (i_Years _ _).mono ?_); rintro e w' ⟨rfl, rfl⟩) | (go_at_call 227; (with_reducible refine (s_Amount6 _ _).mono ?_); rintro e w' ⟨rfl, rfl⟩) | (go_at_call 236; (with_reducible refine (s_Sum7 _ _).mono ?_); rintro e w' ⟨rfl, rfl⟩) | ((first | with_reducible refine wp_region_in x (by kernel_rfl) (by kernel_rfl) ?_ | with_reducible refine wp_region_here (by kernel_rfl) (by kernel_rfl) ?_); (repeat (go_big_quiet_step ((first | (go_at_call 178; with_reducible exact Ret.grow _ (HC.out _ _ (hv'.up (by repeat' (first | (with_reducible exact Up.refl _) | (with_reducible assumption) | (with_reducible refine Up.alloc ?_ _) | (with_reducible refine Up.drew ?_) | (with_reducible refine Up.grow ?_ _) | (with_reducible refine Up.setCell ?_ (by (try simp); (try omega)) _)))))) | (go_at_call 157; with_reducible exact Ret.grow _ (HL.out _ _ (hv'.up (by repeat' (first | (with_reducible exact Up.refl _) | (with_reducible assumption) | (with_reducible refine Up.alloc ?_ _) | (with_reducible refine Up.drew ?_) | (with_reducible refine Up.grow ?_ _) | (with_reducible refine Up.setCell ?_ (by (try simp); (try omega)) _)))))) | (go_at_call 142; with_reducible exact Ret.same _ (s_In _ _ _ _)) | (go_at_call 186; with_reducible exact Ret.same _ (i_In _ _ _ _)) | (go_at_call 222; with_reducible exact Ret.same _ (s_Rate _ _)) | (go_at_call 165; with_reducible exact Ret.same _ (i_Rate _ _)) | (go_at_call 262; with_reducible exact Ret.same _ (i_Years _ _)) | (go_at_call 227; with_reducible exact Ret.same _ (s_Amount6 _ _)) | (go_at_call 236; with_reducible exact Ret.same _ (s_Sum7 _ _)))))); refine wpQuiet_nil ?_; intro w' hw'; obtain ⟨x, rfl⟩ := hw'))
  obtain ⟨z0, hz0⟩ := Grow.mk' (show Up (w.alloc (.cells #[.int .i64 T.first, .slice A T.n c] 31)) x.to from (by repeat' (first | (with_reducible exact Up.refl _) | (with_reducible assumption) | (with_reducible refine Up.alloc ?_ _) | (with_reducible refine Up.drew ?_) | (with_reducible refine Up.grow ?_ _) | (with_reducible refine Up.setCell ?_ (by (try simp); (try omega)) _))))
  rw [hz0]
  clear hz0
  go_loopw [8, 9] (fun s i wr => ∃ (j : Nat) (z : Grow (w.alloc (.cells #[.int .i64 T.first, .slice A T.n c] 31))), j ≤ M ∧ i = .int .i64 (T.first + k + 1 + j) ∧ s = .int .i64 (Z j) ∧ wr = z.to) (fun s i _ => (T.first + T.n - intOf i).toNat)
  case atStart => exact ⟨0, z0, by omega, by go_num, by rw [HZ.out], rfl⟩
  case round =>
    clear hb x
    obtain ⟨j, z, hj, rfl, rfl, rfl⟩ := hrel
    by_cases hlt : j < M
    · have hlt1 : T.first + k + 1 + j < T.first + T.n - 1 := by omega
      have h1 := HS.out j
      have h1' := h1.2 (by omega)
      have h2 := HLV.out (k + 1 + j)
      have E := HSS.out j
      have i2 : IntKind.i64.wrap (Z j + T.lv (k + 1 + j)) = Z (j + 1) := by rw [E]; exact IntWalk.i64_in _ (by omega)
      have i3 : IntKind.i64.wrap (T.first + k + 1 + j + 1) = T.first + k + 1 + ((j + 1 : Nat) : Int) := by rw [IntWalk.i64_in _ (by omega)]; omega
      have HXj := Lib.hid (HX.out j (by omega))
      generalize T.lv (k + 1 + j) = LV at *
      clear h1 h1' h2 E
      go_wp2_with (first | (go_at_call 179; (with_reducible refine (HE.out _ _ (hv'.up (by repeat' (first | (with_reducible exact Up.refl _) | (with_reducible assumption) | (with_reducible refine Up.alloc ?_ _) | (with_reducible refine Up.drew ?_) | (with_reducible refine Up.grow ?_ _) | (with_reducible refine Up.setCell ?_ (by (try simp); (try omega)) _))))).mono ?_); rintro e w' ⟨rfl, hb⟩; first | (obtain ⟨x, rfl⟩ := Grow.on x hb) | (obtain ⟨x, rfl⟩ := Grow.mk' hb)) | (go_at_call 157; (with_reducible refine (HXj.out _ _ (hv'.up (by repeat' (first | (with_reducible exact Up.refl _) | (with_reducible assumption) | (with_reducible refine Up.alloc ?_ _) | (with_reducible refine Up.drew ?_) | (with_reducible refine Up.grow ?_ _) | (with_reducible refine Up.setCell ?_ (by (try simp); (try omega)) _))))).mono ?_); rintro e w' ⟨rfl, hb⟩; first | (obtain ⟨x, rfl⟩ := Grow.on x hb) | (obtain ⟨x, rfl⟩ := Grow.mk' hb)) | (go_at_call 142; (with_reducible refine (s_In _ _ _ _).mono ?_); rintro e w' ⟨rfl, rfl⟩) | (go_at_call 186; (with_reducible refine (i_In _ _ _ _).mono ?_); rintro e w' ⟨rfl, rfl⟩) | (go_at_call 222; (with_reducible refine (s_Rate _ _).mono ?_); rintro e w' ⟨rfl, rfl⟩) | (go_at_call 165; (with_reducible refine (i_Rate _ _).mono ?_); rintro e w' ⟨rfl, rfl⟩) | (go_at_call 262; (with_reducible refine (i_Years _ _).mono ?_); rintro e w' ⟨rfl, rfl⟩) | (go_at_call 227; (with_reducible refine (s_Amount6 _ _).mono ?_); rintro e w' ⟨rfl, rfl⟩) | (go_at_call 236; (with_reducible refine (s_Sum7 _ _).mono ?_); rintro e w' ⟨rfl, rfl⟩) | ((first | with_reducible refine wp_region_in x (by kernel_rfl) (by kernel_rfl) ?_ | with_reducible refine wp_region_here (by kernel_rfl) (by kernel_rfl) ?_); (repeat (go_big_quiet_step ((first | (go_at_call 179; with_reducible exact Ret.grow _ (HE.out _ _ (hv'.up (by repeat' (first | (with_reducible exact Up.refl _) | (with_reducible assumption) | (with_reducible refine Up.alloc ?_ _) | (with_reducible refine Up.drew ?_) | (with_reducible refine Up.grow ?_ _) | (with_reducible refine Up.setCell ?_ (by (try simp); (try omega)) _)))))) | (go_at_call 157; with_reducible exact Ret.grow _ (HXj.out _ _ (hv'.up (by repeat' (first | (with_reducible exact Up.refl _) | (with_reducible assumption) | (with_reducible refine Up.alloc ?_ _) | (with_reducible refine Up.drew ?_) | (with_reducible refine Up.grow ?_ _) | (with_reducible refine Up.setCell ?_ (by (try simp); (try omega)) _)))))) | (go_at_call 142; with_reducible exact Ret.same _ (s_In _ _ _ _)) | (go_at_call 186; with_reducible exact Ret.same _ (i_In _ _ _ _)) | (go_at_call 222; with_reducible exact Ret.same _ (s_Rate _ _)) | (go_at_call 165; with_reducible exact Ret.same _ (i_Rate _ _)) | (go_at_call 262; with_reducible exact Ret.same _ (i_Years _ _)) | (go_at_call 227; with_reducible exact Ret.same _ (s_Amount6 _ _)) | (go_at_call 236; with_reducible exact Ret.same _ (s_Sum7 _ _)))))); refine wpQuiet_nil ?_; intro w' hw'; obtain ⟨x, rfl⟩ := hw'))
      go_roundw
      case rel => exact ⟨j + 1, ⟨x.to, show Up _ x.to from (by repeat' (first | (with_reducible exact Up.refl _) | (with_reducible assumption) | (with_reducible refine Up.alloc ?_ _) | (with_reducible refine Up.drew ?_) | (with_reducible refine Up.grow ?_ _) | (with_reducible refine Up.setCell ?_ (by (try simp); (try omega)) _)))⟩, by omega, by go_num, rfl, rfl⟩
      case measure => simp [intOf]; omega
    · have hlt1 : ¬ T.first + k + 1 + j < T.first + T.n - 1 := by omega
      have hjM : j = M := by omega
      have E := Lib.hid (show Z j = YR by rw [hjM]; exact HEY.out.symm)
      have HF2 : ∀ w, Calls Try.prog 180 #[.int .i64 (Z j), .int .i64 (T.lv k)] w (Ret w (.tuple #[.int .i64 X, .int .i64 Y])) := by rw [E.out]; exact HF.out
      replace HF2 := Lib.hid HF2
      clear hjM HEY
      go_wp2_with (first | (go_at_call 179; (with_reducible refine (HE.out _ _ (hv'.up (by repeat' (first | (with_reducible exact Up.refl _) | (with_reducible assumption) | (with_reducible refine Up.alloc ?_ _) | (with_reducible refine Up.drew ?_) | (with_reducible refine Up.grow ?_ _) | (with_reducible refine Up.setCell ?_ (by (try simp); (try omega)) _))))).mono ?_); rintro e w' ⟨rfl, hb⟩; first | (obtain ⟨x, rfl⟩ := Grow.on x hb) | (obtain ⟨x, rfl⟩ := Grow.mk' hb)) | (go_at_call 157; (with_reducible refine (HL.out _ _ (hv'.up (by repeat' (first | (with_reducible exact Up.refl _) | (with_reducible assumption) | (with_reducible refine Up.alloc ?_ _) | (with_reducible refine Up.drew ?_) | (with_reducible refine Up.grow ?_ _) | (with_reducible refine Up.setCell ?_ (by (try simp); (try omega)) _))))).mono ?_); rintro e w' ⟨rfl, hb⟩; first | (obtain ⟨x, rfl⟩ := Grow.on x hb) | (obtain ⟨x, rfl⟩ := Grow.mk' hb)) | (go_at_call 180; (with_reducible refine (HF2.out _).mono ?_); rintro e w' ⟨rfl, hb⟩; first | (obtain ⟨x, rfl⟩ := Grow.on x hb) | (obtain ⟨x, rfl⟩ := Grow.mk' hb)) | (go_at_call 142; (with_reducible refine (s_In _ _ _ _).mono ?_); rintro e w' ⟨rfl, rfl⟩) | (go_at_call 186; (with_reducible refine (i_In _ _ _ _).mono ?_); rintro e w' ⟨rfl, rfl⟩) | (go_at_call 222; (with_reducible refine (s_Rate _ _).mono ?_); rintro e w' ⟨rfl, rfl⟩) | (go_at_call 165; (with_reducible refine (i_Rate _ _).mono ?_); rintro e w' ⟨rfl, rfl⟩) | (go_at_call 262; (with_reducible refine (i_Years _ _).mono ?_); rintro e w' ⟨rfl, rfl⟩) | (go_at_call 227; (with_reducible refine (s_Amount6 _ _).mono ?_); rintro e w' ⟨rfl, rfl⟩) | (go_at_call 236; (with_reducible refine (s_Sum7 _ _).mono ?_); rintro e w' ⟨rfl, rfl⟩) | ((first | with_reducible refine wp_region_in x (by kernel_rfl) (by kernel_rfl) ?_ | with_reducible refine wp_region_here (by kernel_rfl) (by kernel_rfl) ?_); (repeat (go_big_quiet_step ((first | (go_at_call 179; with_reducible exact Ret.grow _ (HE.out _ _ (hv'.up (by repeat' (first | (with_reducible exact Up.refl _) | (with_reducible assumption) | (with_reducible refine Up.alloc ?_ _) | (with_reducible refine Up.drew ?_) | (with_reducible refine Up.grow ?_ _) | (with_reducible refine Up.setCell ?_ (by (try simp); (try omega)) _)))))) | (go_at_call 157; with_reducible exact Ret.grow _ (HL.out _ _ (hv'.up (by repeat' (first | (with_reducible exact Up.refl _) | (with_reducible assumption) | (with_reducible refine Up.alloc ?_ _) | (with_reducible refine Up.drew ?_) | (with_reducible refine Up.grow ?_ _) | (with_reducible refine Up.setCell ?_ (by (try simp); (try omega)) _)))))) | (go_at_call 180; with_reducible exact Ret.grow _ (HF2.out _)) | (go_at_call 142; with_reducible exact Ret.same _ (s_In _ _ _ _)) | (go_at_call 186; with_reducible exact Ret.same _ (i_In _ _ _ _)) | (go_at_call 222; with_reducible exact Ret.same _ (s_Rate _ _)) | (go_at_call 165; with_reducible exact Ret.same _ (i_Rate _ _)) | (go_at_call 262; with_reducible exact Ret.same _ (i_Years _ _)) | (go_at_call 227; with_reducible exact Ret.same _ (s_Amount6 _ _)) | (go_at_call 236; with_reducible exact Ret.same _ (s_Sum7 _ _)))))); refine wpQuiet_nil ?_; intro w' hw'; obtain ⟨x, rfl⟩ := hw'))
      go_ret3
      exact ⟨rfl, (by repeat' (first | (with_reducible exact Up.refl _) | (with_reducible assumption) | (with_reducible refine Up.alloc ?_ _) | (with_reducible refine Up.drew ?_) | (with_reducible refine Up.grow ?_ _) | (with_reducible refine Up.setCell ?_ (by (try simp); (try omega)) _)))⟩
theorem s_ExpectedYears (T : Tab) (age : Int) (v : Value) (w : World) (hv : TabAt w T v) :
    Calls Try.prog 55 #[v, .int .i64 age] w (RetQ3 w (alC T age) (eyA T (ix T age) : Nat) (eyB T (ix T age) : Nat)) := by
  have HC := s_CodeA T age
  by_cases hA : aC T age = 0
  case neg =>
    have hv' := hv
    obtain ⟨A, c, rfl, hc, hm, _, hI⟩ := hv
    rw [alC_bad hA, RetQ3_bad hA]
    replace HC := Lib.hid HC
    (have hz1 : ((aC T age) != 0) = true := (by simpa using hA)); (have hz2 : ((aC T age) == 0) = false := (by simpa using hA))
    clear hA
    generalize aC T age = K at *
    go_enter Try.func55, Try.ntmps55
    go_wp2_with (first | (go_at_call 178; (with_reducible refine (HC.out _ _ (hv'.up (by repeat' (first | (with_reducible exact Up.refl _) | (with_reducible assumption) | (with_reducible refine Up.alloc ?_ _) | (with_reducible refine Up.drew ?_) | (with_reducible refine Up.grow ?_ _) | (with_reducible refine Up.setCell ?_ (by (try simp); (try omega)) _))))).mono ?_); rintro e w' ⟨rfl, hb⟩; first | (obtain ⟨x, rfl⟩ := Grow.on x hb) | (obtain ⟨x, rfl⟩ := Grow.mk' hb)) | (go_at_call 142; (with_reducible refine (s_In _ _ _ _).mono ?_); rintro e w' ⟨rfl, rfl⟩) | (go_at_call 186; (with_reducible refine (i_In _ _ _ _).mono ?_); rintro e w' ⟨rfl, rfl⟩) | (go_at_call 222; (with_reducible refine (s_Rate _ _).mono ?_); rintro e w' ⟨rfl, rfl⟩) | (go_at_call 165; (with_reducible refine (i_Rate _ _).mono ?_); rintro e w' ⟨rfl, rfl⟩) | (go_at_call 262; (with_reducible refine (i_Years _ _).mono ?_); rintro e w' ⟨rfl, rfl⟩) | (go_at_call 227; (with_reducible refine (s_Amount6 _ _).mono ?_); rintro e w' ⟨rfl, rfl⟩) | (go_at_call 236; (with_reducible refine (s_Sum7 _ _).mono ?_); rintro e w' ⟨rfl, rfl⟩) | ((first | with_reducible refine wp_region_in x (by kernel_rfl) (by kernel_rfl) ?_ | with_reducible refine wp_region_here (by kernel_rfl) (by kernel_rfl) ?_); (repeat (go_big_quiet_step ((first | (go_at_call 178; with_reducible exact Ret.grow _ (HC.out _ _ (hv'.up (by repeat' (first | (with_reducible exact Up.refl _) | (with_reducible assumption) | (with_reducible refine Up.alloc ?_ _) | (with_reducible refine Up.drew ?_) | (with_reducible refine Up.grow ?_ _) | (with_reducible refine Up.setCell ?_ (by (try simp); (try omega)) _)))))) | (go_at_call 142; with_reducible exact Ret.same _ (s_In _ _ _ _)) | (go_at_call 186; with_reducible exact Ret.same _ (i_In _ _ _ _)) | (go_at_call 222; with_reducible exact Ret.same _ (s_Rate _ _)) | (go_at_call 165; with_reducible exact Ret.same _ (i_Rate _ _)) | (go_at_call 262; with_reducible exact Ret.same _ (i_Years _ _)) | (go_at_call 227; with_reducible exact Ret.same _ (s_Amount6 _ _)) | (go_at_call 236; with_reducible exact Ret.same _ (s_Sum7 _ _)))))); refine wpQuiet_nil ?_; intro w' hw'; obtain ⟨x, rfl⟩ := hw'))
    go_ret3
    exact ⟨rfl, (by repeat' (first | (with_reducible exact Up.refl _) | (with_reducible assumption) | (with_reducible refine Up.alloc ?_ _) | (with_reducible refine Up.drew ?_) | (with_reducible refine Up.grow ?_ _) | (with_reducible refine Up.setCell ?_ (by (try simp); (try omega)) _)))⟩
  obtain ⟨hT, k, rfl, hk⟩ := aC_ok hA
  rw [alC_k hT hk, ix_k]
  by_cases hl : T.lv k = 0
  · have hv' := hv
    obtain ⟨A, c, rfl, hc, hm, _, hI⟩ := hv
    have HL := s_LivesA hT k (by omega)
    rw [if_pos hl, RetQ3_bad (by omega)]
    rw [hA] at HC
    rw [hl] at HL
    replace HC := Lib.hid HC
    replace HL := Lib.hid HL
    clear hA hl
    go_enter Try.func55, Try.ntmps55
    go_wp2_with (first | (go_at_call 178; (with_reducible refine (HC.out _ _ (hv'.up (by repeat' (first | (with_reducible exact Up.refl _) | (with_reducible assumption) | (with_reducible refine Up.alloc ?_ _) | (with_reducible refine Up.drew ?_) | (with_reducible refine Up.grow ?_ _) | (with_reducible refine Up.setCell ?_ (by (try simp); (try omega)) _))))).mono ?_); rintro e w' ⟨rfl, hb⟩; first | (obtain ⟨x, rfl⟩ := Grow.on x hb) | (obtain ⟨x, rfl⟩ := Grow.mk' hb)) | (go_at_call 157; (with_reducible refine (HL.out _ _ (hv'.up (by repeat' (first | (with_reducible exact Up.refl _) | (with_reducible assumption) | (with_reducible refine Up.alloc ?_ _) | (with_reducible refine Up.drew ?_) | (with_reducible refine Up.grow ?_ _) | (with_reducible refine Up.setCell ?_ (by (try simp); (try omega)) _))))).mono ?_); rintro e w' ⟨rfl, hb⟩; first | (obtain ⟨x, rfl⟩ := Grow.on x hb) | (obtain ⟨x, rfl⟩ := Grow.mk' hb)) | (go_at_call 142; (with_reducible refine (s_In _ _ _ _).mono ?_); rintro e w' ⟨rfl, rfl⟩) | (go_at_call 186; (with_reducible refine (i_In _ _ _ _).mono ?_); rintro e w' ⟨rfl, rfl⟩) | (go_at_call 222; (with_reducible refine (s_Rate _ _).mono ?_); rintro e w' ⟨rfl, rfl⟩) | (go_at_call 165; (with_reducible refine (i_Rate _ _).mono ?_); rintro e w' ⟨rfl, rfl⟩) | (go_at_call 262; (with_reducible refine (i_Years _ _).mono ?_); rintro e w' ⟨rfl, rfl⟩) | (go_at_call 227; (with_reducible refine (s_Amount6 _ _).mono ?_); rintro e w' ⟨rfl, rfl⟩) | (go_at_call 236; (with_reducible refine (s_Sum7 _ _).mono ?_); rintro e w' ⟨rfl, rfl⟩) | ((first | with_reducible refine wp_region_in x (by kernel_rfl) (by kernel_rfl) ?_ | with_reducible refine wp_region_here (by kernel_rfl) (by kernel_rfl) ?_); (repeat (go_big_quiet_step ((first | (go_at_call 178; with_reducible exact Ret.grow _ (HC.out _ _ (hv'.up (by repeat' (first | (with_reducible exact Up.refl _) | (with_reducible assumption) | (with_reducible refine Up.alloc ?_ _) | (with_reducible refine Up.drew ?_) | (with_reducible refine Up.grow ?_ _) | (with_reducible refine Up.setCell ?_ (by (try simp); (try omega)) _)))))) | (go_at_call 157; with_reducible exact Ret.grow _ (HL.out _ _ (hv'.up (by repeat' (first | (with_reducible exact Up.refl _) | (with_reducible assumption) | (with_reducible refine Up.alloc ?_ _) | (with_reducible refine Up.drew ?_) | (with_reducible refine Up.grow ?_ _) | (with_reducible refine Up.setCell ?_ (by (try simp); (try omega)) _)))))) | (go_at_call 142; with_reducible exact Ret.same _ (s_In _ _ _ _)) | (go_at_call 186; with_reducible exact Ret.same _ (i_In _ _ _ _)) | (go_at_call 222; with_reducible exact Ret.same _ (s_Rate _ _)) | (go_at_call 165; with_reducible exact Ret.same _ (i_Rate _ _)) | (go_at_call 262; with_reducible exact Ret.same _ (i_Years _ _)) | (go_at_call 227; with_reducible exact Ret.same _ (s_Amount6 _ _)) | (go_at_call 236; with_reducible exact Ret.same _ (s_Sum7 _ _)))))); refine wpQuiet_nil ?_; intro w' hw'; obtain ⟨x, rfl⟩ := hw'))
    go_ret3
    exact ⟨rfl, (by repeat' (first | (with_reducible exact Up.refl _) | (with_reducible assumption) | (with_reducible refine Up.alloc ?_ _) | (with_reducible refine Up.drew ?_) | (with_reducible refine Up.grow ?_ _) | (with_reducible refine Up.setCell ?_ (by (try simp); (try omega)) _)))⟩
  · rw [if_neg hl, RetQ3_ok]
    refine s_EY hT k ?_ v w hv
    rcases Nat.lt_or_ge (k + 1) T.n with g | g
    · exact g
    · exact absurd (hT.end_ (by omega)) hl
end Go.Proofs.Ytdeoampkbbbleaa
