/- Contracts of BothAlive and OneAlive, both sides. Condition: the slices read as the tables' numbers. -/
import Derived.Test.YtdeoampkbbbleaaLife
import Derived.Test.YtdeoampkbbbleaaJoint
import Derived.Test.YtdeoampkbbbleaaS08
namespace Go.Proofs.Ytdeoampkbbbleaa
open Go.RowKit Pu
set_option linter.unusedVariables false
set_option linter.unusedSimpArgs false

/-- The numerators and the denominator of the chances of two lives. -/
def baX (T U : Tab) (i j n : Nat) : Nat := (T.lv (i + n) * U.lv (j + n)).toNat
def oaX (T U : Tab) (i j n : Nat) : Nat := (oneX (T.lv (i + n)) (T.lv i) (U.lv (j + n)) (U.lv j)).toNat
def abX (T U : Tab) (i j : Nat) : Nat := (T.lv i * U.lv j).toNat
theorem mul_bd6 {a c : Int} (h0 : 0 ≤ a) (h1 : a ≤ 1000000) (h2 : 0 ≤ c) (h3 : c ≤ 1000000) : 0 ≤ a * c ∧ a * c ≤ 1000000000000 := by
  have h : a * c ≤ 1000000 * 1000000 := Int.mul_le_mul h1 h3 h2 (by omega)
  exact ⟨Int.mul_nonneg h0 h2, by omega⟩
theorem two_nums {a b c d : Int} (ha : 0 ≤ a) (hab : a ≤ b) (hb : b ≤ 1000000) (hc : 0 ≤ c) (hcd : c ≤ d) (hd : d ≤ 1000000) :
    (0 ≤ a * c ∧ a * c ≤ 1000000000000) ∧ (0 ≤ b * d ∧ b * d ≤ 1000000000000) ∧ (0 ≤ (b - a) * (d - c) ∧ (b - a) * (d - c) ≤ 1000000000000) ∧ (0 ≤ a * d ∧ a * d ≤ 1000000000000) ∧ (0 ≤ c * b ∧ c * b ≤ 1000000000000) ∧ b * d - (b - a) * (d - c) = oneX a b c d := by
  refine ⟨mul_bd6 ha (by omega) hc (by omega), mul_bd6 (by omega) hb (by omega) hd, mul_bd6 (by omega) (by omega) (by omega) (by omega), mul_bd6 ha (by omega) (by omega) hd, mul_bd6 hc (by omega) (by omega) hb, ?_⟩
  unfold oneX
  rw [Int.sub_mul, Int.mul_sub, Int.mul_sub]
  have e : c * b = b * c := Int.mul_comm _ _
  omega
theorem two_bd {T U : Tab} (hT : T.Ok) (hU : U.Ok) {i j : Nat} (n : Nat) (hi : i + 1 < T.n) (hj : j + 1 < U.n) :
    (baX T U i j n : Int) = T.lv (i + n) * U.lv (j + n) ∧ (oaX T U i j n : Int) = oneX (T.lv (i + n)) (T.lv i) (U.lv (j + n)) (U.lv j) ∧ (abX T U i j : Int) = T.lv i * U.lv j ∧ baX T U i j n ≤ oaX T U i j n ∧ oaX T U i j n ≤ abX T U i j ∧ 1 ≤ abX T U i j ∧ abX T U i j ≤ 1000000000000 := by
  have a1 := hT.lv_bd (i + n); have a2 := hT.lv_bd i; have a3 := hU.lv_bd (j + n); have a4 := hU.lv_bd j
  have p1 := hT.lv_pos hi; have p2 := hU.lv_pos hj
  have m1 := hT.lv_le i n
  have m2 := hU.lv_le j n
  have ob := one_bd a1.1 m1 a3.1 m2
  obtain ⟨t1, t2, _, _, _, _⟩ := two_nums a1.1 m1 a2.2 a3.1 m2 a4.2
  have c3 : 1 * 1 ≤ T.lv i * U.lv j := Int.mul_le_mul (by omega) (by omega) (by omega) (by omega)
  unfold baX oaX abX
  omega
set_option maxRecDepth 100000 in
set_option maxHeartbeats 2000000 in
theorem s_Chances {T U : Tab} {x y n : Int} (hz : code8 T x U y (inR n 0 150) = 0) (v u : Value) (w : World) (hv : TabAt w T v) (hu : TabAt w U u) :
    Calls Try.prog 193 #[v, .int .i64 x, u, .int .i64 y, .int .i64 n] w (Ret w (.tuple #[.int .i64 (baX T U (ix T x) (ix U y) n.toNat), .int .i64 (oaX T U (ix T x) (ix U y) n.toNat), .int .i64 (abX T U (ix T x) (ix U y))])) := by
  have hv' := hv
  have hu' := hu
  obtain ⟨A, c0, rfl, hc, hm, _, hI⟩ := hv
  obtain ⟨A2, c2, rfl, hc2, hm2, _, hI2⟩ := hu
  obtain ⟨hT, hU, hb, i, j, rfl, rfl, hx, hy, hi, hj⟩ := code8_ok hz
  have hnb := inR_true.1 hb
  obtain ⟨n, rfl⟩ : ∃ n' : Nat, n = n' := ⟨n.toNat, by omega⟩
  obtain ⟨e1, e2, e3, e4, e5, e6, e7⟩ := two_bd hT hU n hi hj
  have q1 := hT.lo; have q2 := hU.lo
  have w1 : IntKind.i64.wrap (T.first + i + n) = T.first + i + n := IntWalk.i64_in _ (by omega)
  have w2 : IntKind.i64.wrap (U.first + j + n) = U.first + j + n := IntWalk.i64_in _ (by omega)
  have tn := two_nums (hT.lv_bd (i + n)).1 (hT.lv_le i n) (hT.lv_bd i).2 (hU.lv_bd (j + n)).1 (hU.lv_le j n) (hU.lv_bd j).2
  have ba := hT.lv_bd (i + n); have bb := hT.lv_bd i; have bc := hU.lv_bd (j + n); have bd := hU.lv_bd j
  rw [ix_k, ix_k, Int.toNat_natCast]
  have H1 := Lib.hid (s_LivesA hT i (by omega))
  have H2 := Lib.hid (s_LivesA hU j (by omega))
  have H3 := Lib.hid (s_LivesKM hT i n (by omega))
  have H4 := Lib.hid (s_LivesKM hU j n (by omega))
  rw [e1, e2, e3]
  generalize T.lv (i + n) = a at *
  generalize T.lv i = b at *
  generalize U.lv (j + n) = c at *
  generalize U.lv j = d at *
  obtain ⟨t1, t2, t3, t4, t5, t6⟩ := tn
  obtain ⟨O, hO⟩ : ∃ O, oneX a b c d = O := ⟨_, rfl⟩
  rw [hO] at e2 t6
  have hO2 : a * d + c * b - a * c = O := hO
  obtain ⟨P, hP⟩ : ∃ P, a * c = P := ⟨_, rfl⟩
  obtain ⟨Q, hQ⟩ : ∃ Q, b * d = Q := ⟨_, rfl⟩
  obtain ⟨R, hR⟩ : ∃ R, (b - a) * (d - c) = R := ⟨_, rfl⟩
  obtain ⟨X1, hX1⟩ : ∃ X1, a * d = X1 := ⟨_, rfl⟩
  obtain ⟨X2, hX2⟩ : ∃ X2, c * b = X2 := ⟨_, rfl⟩
  try rw [hO]
  try rw [hP]
  try rw [hQ]
  try rw [hO] at HF
  try rw [hP] at HF
  try rw [hQ] at HF
  rw [hP] at e1 t1
  rw [hQ] at e3 t2 t6
  rw [hR] at t3 t6
  rw [hX1, hX2, hP] at hO2
  rw [hX1] at t4
  rw [hX2] at t5
  have r1 : IntKind.i64.wrap (a * c) = P := by rw [hP]; exact IntWalk.i64_in _ (by omega)
  have r2 : IntKind.i64.wrap (b * d) = Q := by rw [hQ]; exact IntWalk.i64_in _ (by omega)
  have r3 : IntKind.i64.wrap (b - a) = b - a := IntWalk.i64_in _ (by omega)
  have r4 : IntKind.i64.wrap (d - c) = d - c := IntWalk.i64_in _ (by omega)
  have r5 : IntKind.i64.wrap ((b - a) * (d - c)) = R := by rw [hR]; exact IntWalk.i64_in _ (by omega)
  have r6 : IntKind.i64.wrap (Q - R) = O := by rw [t6]; exact IntWalk.i64_in _ (by omega)
  have r7 : IntKind.i64.wrap (a * d) = X1 := by rw [hX1]; exact IntWalk.i64_in _ (by omega)
  have r8 : IntKind.i64.wrap (c * b) = X2 := by rw [hX2]; exact IntWalk.i64_in _ (by omega)
  have r9 : IntKind.i64.wrap (X1 + X2) = X1 + X2 := IntWalk.i64_in _ (by omega)
  have r10 : IntKind.i64.wrap (X1 + X2 - P) = O := by rw [hO2]; exact IntWalk.i64_in _ (by omega)
  clear hO hO2 hP hQ hR hX1 hX2 t1 t2 t3 t4 t5 t6 ba bb bc bd
  clear hz hb e1 e2 e3 e4 e5 e6 e7
  go_enter Try.func193, Try.ntmps193
  go_wp2_with (first | (go_at_call 157; (with_reducible refine (H1.out _ _ (hv'.up (by repeat' (first | (with_reducible exact Up.refl _) | (with_reducible assumption) | (with_reducible refine Up.alloc ?_ _) | (with_reducible refine Up.drew ?_) | (with_reducible refine Up.grow ?_ _) | (with_reducible refine Up.setCell ?_ (by (try simp); (try omega)) _))))).mono ?_); rintro e w' ⟨rfl, hb⟩; first | (obtain ⟨x, rfl⟩ := Grow.on x hb) | (obtain ⟨x, rfl⟩ := Grow.mk' hb)) | (go_at_call 157; (with_reducible refine (H2.out _ _ (hu'.up (by repeat' (first | (with_reducible exact Up.refl _) | (with_reducible assumption) | (with_reducible refine Up.alloc ?_ _) | (with_reducible refine Up.drew ?_) | (with_reducible refine Up.grow ?_ _) | (with_reducible refine Up.setCell ?_ (by (try simp); (try omega)) _))))).mono ?_); rintro e w' ⟨rfl, hb⟩; first | (obtain ⟨x, rfl⟩ := Grow.on x hb) | (obtain ⟨x, rfl⟩ := Grow.mk' hb)) | (go_at_call 157; (with_reducible refine (H3.out _ _ (hv'.up (by repeat' (first | (with_reducible exact Up.refl _) | (with_reducible assumption) | (with_reducible refine Up.alloc ?_ _) | (with_reducible refine Up.drew ?_) | (with_reducible refine Up.grow ?_ _) | (with_reducible refine Up.setCell ?_ (by (try simp); (try omega)) _))))).mono ?_); rintro e w' ⟨rfl, hb⟩; first | (obtain ⟨x, rfl⟩ := Grow.on x hb) | (obtain ⟨x, rfl⟩ := Grow.mk' hb)) | (go_at_call 157; (with_reducible refine (H4.out _ _ (hu'.up (by repeat' (first | (with_reducible exact Up.refl _) | (with_reducible assumption) | (with_reducible refine Up.alloc ?_ _) | (with_reducible refine Up.drew ?_) | (with_reducible refine Up.grow ?_ _) | (with_reducible refine Up.setCell ?_ (by (try simp); (try omega)) _))))).mono ?_); rintro e w' ⟨rfl, hb⟩; first | (obtain ⟨x, rfl⟩ := Grow.on x hb) | (obtain ⟨x, rfl⟩ := Grow.mk' hb)) | (go_at_call 142; (with_reducible refine (s_In _ _ _ _).mono ?_); rintro e w' ⟨rfl, rfl⟩) | (go_at_call 186; (with_reducible refine (i_In _ _ _ _).mono ?_); rintro e w' ⟨rfl, rfl⟩) | (go_at_call 222; (with_reducible refine (s_Rate _ _).mono ?_); rintro e w' ⟨rfl, rfl⟩) | (go_at_call 165; (with_reducible refine (i_Rate _ _).mono ?_); rintro e w' ⟨rfl, rfl⟩) | (go_at_call 262; (with_reducible refine (i_Years _ _).mono ?_); rintro e w' ⟨rfl, rfl⟩) | (go_at_call 227; (with_reducible refine (s_Amount6 _ _).mono ?_); rintro e w' ⟨rfl, rfl⟩) | (go_at_call 236; (with_reducible refine (s_Sum7 _ _).mono ?_); rintro e w' ⟨rfl, rfl⟩) | ((first | with_reducible refine wp_region_in x (by kernel_rfl) (by kernel_rfl) ?_ | with_reducible refine wp_region_here (by kernel_rfl) (by kernel_rfl) ?_); (repeat (go_big_quiet_step ((first | (go_at_call 157; with_reducible exact Ret.grow _ (H1.out _ _ (hv'.up (by repeat' (first | (with_reducible exact Up.refl _) | (with_reducible assumption) | (with_reducible refine Up.alloc ?_ _) | (with_reducible refine Up.drew ?_) | (with_reducible refine Up.grow ?_ _) | (with_reducible refine Up.setCell ?_ (by (try simp); (try omega)) _)))))) | (go_at_call 157; with_reducible exact Ret.grow _ (H2.out _ _ (hu'.up (by repeat' (first | (with_reducible exact Up.refl _) | (with_reducible assumption) | (with_reducible refine Up.alloc ?_ _) | (with_reducible refine Up.drew ?_) | (with_reducible refine Up.grow ?_ _) | (with_reducible refine Up.setCell ?_ (by (try simp); (try omega)) _)))))) | (go_at_call 157; with_reducible exact Ret.grow _ (H3.out _ _ (hv'.up (by repeat' (first | (with_reducible exact Up.refl _) | (with_reducible assumption) | (with_reducible refine Up.alloc ?_ _) | (with_reducible refine Up.drew ?_) | (with_reducible refine Up.grow ?_ _) | (with_reducible refine Up.setCell ?_ (by (try simp); (try omega)) _)))))) | (go_at_call 157; with_reducible exact Ret.grow _ (H4.out _ _ (hu'.up (by repeat' (first | (with_reducible exact Up.refl _) | (with_reducible assumption) | (with_reducible refine Up.alloc ?_ _) | (with_reducible refine Up.drew ?_) | (with_reducible refine Up.grow ?_ _) | (with_reducible refine Up.setCell ?_ (by (try simp); (try omega)) _)))))) | (go_at_call 142; with_reducible exact Ret.same _ (s_In _ _ _ _)) | (go_at_call 186; with_reducible exact Ret.same _ (i_In _ _ _ _)) | (go_at_call 222; with_reducible exact Ret.same _ (s_Rate _ _)) | (go_at_call 165; with_reducible exact Ret.same _ (i_Rate _ _)) | (go_at_call 262; with_reducible exact Ret.same _ (i_Years _ _)) | (go_at_call 227; with_reducible exact Ret.same _ (s_Amount6 _ _)) | (go_at_call 236; with_reducible exact Ret.same _ (s_Sum7 _ _)))))); refine wpQuiet_nil ?_; intro w' hw'; obtain ⟨x, rfl⟩ := hw'))
  go_ret3
  exact ⟨rfl, (by repeat' (first | (with_reducible exact Up.refl _) | (with_reducible assumption) | (with_reducible refine Up.alloc ?_ _) | (with_reducible refine Up.drew ?_) | (with_reducible refine Up.grow ?_ _) | (with_reducible refine Up.setCell ?_ (by (try simp); (try omega)) _)))⟩
set_option maxRecDepth 100000 in
set_option maxHeartbeats 2000000 in
theorem s_BothAlive (T U : Tab) (x y n : Int) (v u : Value) (w : World) (hv : TabAt w T v) (hu : TabAt w U u) :
    Calls Try.prog 70 #[v, .int .i64 x, u, .int .i64 y, .int .i64 n] w (RetQ3 w (code8 T x U y (inR n 0 150)) (fA (baX T U (ix T x) (ix U y) n.toNat) (abX T U (ix T x) (ix U y)) : Nat) (fB (baX T U (ix T x) (ix U y) n.toNat) (abX T U (ix T x) (ix U y)) : Nat)) := by
  have HC := s_Code8 T x U y (inR n 0 150)
  have hv' := hv
  have hu' := hu
  obtain ⟨A, c0, rfl, hc, hm, _, hI⟩ := hv
  obtain ⟨A2, c2, rfl, hc2, hm2, _, hI2⟩ := hu
  by_cases hz : code8 T x U y (inR n 0 150) = 0
  case neg =>
    rw [RetQ3_bad hz]
    (have hz1 : ((code8 T x U y (inR n 0 150)) != 0) = true := (by simpa using hz)); (have hz2 : ((code8 T x U y (inR n 0 150)) == 0) = false := (by simpa using hz))
    clear hz
    generalize code8 T x U y (inR n 0 150) = K at *
    replace HC := Lib.hid HC
    go_enter Try.func70, Try.ntmps70
    go_wp2_with (first | (go_at_call 191; (with_reducible refine (HC.out _ _ _ (hv'.up (by repeat' (first | (with_reducible exact Up.refl _) | (with_reducible assumption) | (with_reducible refine Up.alloc ?_ _) | (with_reducible refine Up.drew ?_) | (with_reducible refine Up.grow ?_ _) | (with_reducible refine Up.setCell ?_ (by (try simp); (try omega)) _)))) (hu'.up (by repeat' (first | (with_reducible exact Up.refl _) | (with_reducible assumption) | (with_reducible refine Up.alloc ?_ _) | (with_reducible refine Up.drew ?_) | (with_reducible refine Up.grow ?_ _) | (with_reducible refine Up.setCell ?_ (by (try simp); (try omega)) _))))).mono ?_); rintro e w' ⟨rfl, hb⟩; first | (obtain ⟨x, rfl⟩ := Grow.on x hb) | (obtain ⟨x, rfl⟩ := Grow.mk' hb)) | (go_at_call 142; (with_reducible refine (s_In _ _ _ _).mono ?_); rintro e w' ⟨rfl, rfl⟩) | (go_at_call 186; (with_reducible refine (i_In _ _ _ _).mono ?_); rintro e w' ⟨rfl, rfl⟩) | (go_at_call 222; (with_reducible refine (s_Rate _ _).mono ?_); rintro e w' ⟨rfl, rfl⟩) | (go_at_call 165; (with_reducible refine (i_Rate _ _).mono ?_); rintro e w' ⟨rfl, rfl⟩) | (go_at_call 262; (with_reducible refine (i_Years _ _).mono ?_); rintro e w' ⟨rfl, rfl⟩) | (go_at_call 227; (with_reducible refine (s_Amount6 _ _).mono ?_); rintro e w' ⟨rfl, rfl⟩) | (go_at_call 236; (with_reducible refine (s_Sum7 _ _).mono ?_); rintro e w' ⟨rfl, rfl⟩) | ((first | with_reducible refine wp_region_in x (by kernel_rfl) (by kernel_rfl) ?_ | with_reducible refine wp_region_here (by kernel_rfl) (by kernel_rfl) ?_); (repeat (go_big_quiet_step ((first | (go_at_call 191; with_reducible exact Ret.grow _ (HC.out _ _ _ (hv'.up (by repeat' (first | (with_reducible exact Up.refl _) | (with_reducible assumption) | (with_reducible refine Up.alloc ?_ _) | (with_reducible refine Up.drew ?_) | (with_reducible refine Up.grow ?_ _) | (with_reducible refine Up.setCell ?_ (by (try simp); (try omega)) _)))) (hu'.up (by repeat' (first | (with_reducible exact Up.refl _) | (with_reducible assumption) | (with_reducible refine Up.alloc ?_ _) | (with_reducible refine Up.drew ?_) | (with_reducible refine Up.grow ?_ _) | (with_reducible refine Up.setCell ?_ (by (try simp); (try omega)) _)))))) | (go_at_call 142; with_reducible exact Ret.same _ (s_In _ _ _ _)) | (go_at_call 186; with_reducible exact Ret.same _ (i_In _ _ _ _)) | (go_at_call 222; with_reducible exact Ret.same _ (s_Rate _ _)) | (go_at_call 165; with_reducible exact Ret.same _ (i_Rate _ _)) | (go_at_call 262; with_reducible exact Ret.same _ (i_Years _ _)) | (go_at_call 227; with_reducible exact Ret.same _ (s_Amount6 _ _)) | (go_at_call 236; with_reducible exact Ret.same _ (s_Sum7 _ _)))))); refine wpQuiet_nil ?_; intro w' hw'; obtain ⟨x, rfl⟩ := hw'))
    go_ret3
    exact ⟨rfl, (by repeat' (first | (with_reducible exact Up.refl _) | (with_reducible assumption) | (with_reducible refine Up.alloc ?_ _) | (with_reducible refine Up.drew ?_) | (with_reducible refine Up.grow ?_ _) | (with_reducible refine Up.setCell ?_ (by (try simp); (try omega)) _)))⟩
  have HH := Lib.hid (s_Chances hz)
  rw [hz, RetQ3_ok]
  rw [hz] at HC
  have hF : ∀ w, Calls Try.prog 180 #[.int .i64 (baX T U (ix T x) (ix U y) n.toNat), .int .i64 (abX T U (ix T x) (ix U y))] w (Ret w (.tuple #[.int .i64 (fA (baX T U (ix T x) (ix U y) n.toNat) (abX T U (ix T x) (ix U y)) : Nat), .int .i64 (fB (baX T U (ix T x) (ix U y) n.toNat) (abX T U (ix T x) (ix U y)) : Nat)])) := by
    obtain ⟨hT, hU, hb, i, j, rfl, rfl, hx, hy, hi, hj⟩ := code8_ok hz
    rw [ix_k, ix_k]
    obtain ⟨e1, e2, e3, e4, e5, e6, e7⟩ := two_bd hT hU n.toNat hi hj
    exact fun w => s_Frac _ _ e6 (by omega) (by omega) w
  have HF := Lib.hid hF
  generalize baX T U (ix T x) (ix U y) n.toNat = X at *
  generalize oaX T U (ix T x) (ix U y) n.toNat = Y at *
  generalize abX T U (ix T x) (ix U y) = Z at *
  replace HC := Lib.hid HC
  clear hF hz
  go_enter Try.func70, Try.ntmps70
  go_wp2_with (first | (go_at_call 191; (with_reducible refine (HC.out _ _ _ (hv'.up (by repeat' (first | (with_reducible exact Up.refl _) | (with_reducible assumption) | (with_reducible refine Up.alloc ?_ _) | (with_reducible refine Up.drew ?_) | (with_reducible refine Up.grow ?_ _) | (with_reducible refine Up.setCell ?_ (by (try simp); (try omega)) _)))) (hu'.up (by repeat' (first | (with_reducible exact Up.refl _) | (with_reducible assumption) | (with_reducible refine Up.alloc ?_ _) | (with_reducible refine Up.drew ?_) | (with_reducible refine Up.grow ?_ _) | (with_reducible refine Up.setCell ?_ (by (try simp); (try omega)) _))))).mono ?_); rintro e w' ⟨rfl, hb⟩; first | (obtain ⟨x, rfl⟩ := Grow.on x hb) | (obtain ⟨x, rfl⟩ := Grow.mk' hb)) | (go_at_call 193; (with_reducible refine (HH.out _ _ _ (hv'.up (by repeat' (first | (with_reducible exact Up.refl _) | (with_reducible assumption) | (with_reducible refine Up.alloc ?_ _) | (with_reducible refine Up.drew ?_) | (with_reducible refine Up.grow ?_ _) | (with_reducible refine Up.setCell ?_ (by (try simp); (try omega)) _)))) (hu'.up (by repeat' (first | (with_reducible exact Up.refl _) | (with_reducible assumption) | (with_reducible refine Up.alloc ?_ _) | (with_reducible refine Up.drew ?_) | (with_reducible refine Up.grow ?_ _) | (with_reducible refine Up.setCell ?_ (by (try simp); (try omega)) _))))).mono ?_); rintro e w' ⟨rfl, hb⟩; first | (obtain ⟨x, rfl⟩ := Grow.on x hb) | (obtain ⟨x, rfl⟩ := Grow.mk' hb)) | (go_at_call 180; (with_reducible refine (HF.out _).mono ?_); rintro e w' ⟨rfl, hb⟩; first | (obtain ⟨x, rfl⟩ := Grow.on x hb) | (obtain ⟨x, rfl⟩ := Grow.mk' hb)) | (go_at_call 142; (with_reducible refine (s_In _ _ _ _).mono ?_); rintro e w' ⟨rfl, rfl⟩) | (go_at_call 186; (with_reducible refine (i_In _ _ _ _).mono ?_); rintro e w' ⟨rfl, rfl⟩) | (go_at_call 222; (with_reducible refine (s_Rate _ _).mono ?_); rintro e w' ⟨rfl, rfl⟩) | (go_at_call 165; (with_reducible refine (i_Rate _ _).mono ?_); rintro e w' ⟨rfl, rfl⟩) | (go_at_call 262; (with_reducible refine (i_Years _ _).mono ?_); rintro e w' ⟨rfl, rfl⟩) | (go_at_call 227; (with_reducible refine (s_Amount6 _ _).mono ?_); rintro e w' ⟨rfl, rfl⟩) | (go_at_call 236; (with_reducible refine (s_Sum7 _ _).mono ?_); rintro e w' ⟨rfl, rfl⟩) | ((first | with_reducible refine wp_region_in x (by kernel_rfl) (by kernel_rfl) ?_ | with_reducible refine wp_region_here (by kernel_rfl) (by kernel_rfl) ?_); (repeat (go_big_quiet_step ((first | (go_at_call 191; with_reducible exact Ret.grow _ (HC.out _ _ _ (hv'.up (by repeat' (first | (with_reducible exact Up.refl _) | (with_reducible assumption) | (with_reducible refine Up.alloc ?_ _) | (with_reducible refine Up.drew ?_) | (with_reducible refine Up.grow ?_ _) | (with_reducible refine Up.setCell ?_ (by (try simp); (try omega)) _)))) (hu'.up (by repeat' (first | (with_reducible exact Up.refl _) | (with_reducible assumption) | (with_reducible refine Up.alloc ?_ _) | (with_reducible refine Up.drew ?_) | (with_reducible refine Up.grow ?_ _) | (with_reducible refine Up.setCell ?_ (by (try simp); (try omega)) _)))))) | (go_at_call 193; with_reducible exact Ret.grow _ (HH.out _ _ _ (hv'.up (by repeat' (first | (with_reducible exact Up.refl _) | (with_reducible assumption) | (with_reducible refine Up.alloc ?_ _) | (with_reducible refine Up.drew ?_) | (with_reducible refine Up.grow ?_ _) | (with_reducible refine Up.setCell ?_ (by (try simp); (try omega)) _)))) (hu'.up (by repeat' (first | (with_reducible exact Up.refl _) | (with_reducible assumption) | (with_reducible refine Up.alloc ?_ _) | (with_reducible refine Up.drew ?_) | (with_reducible refine Up.grow ?_ _) | (with_reducible refine Up.setCell ?_ (by (try simp); (try omega)) _)))))) | (go_at_call 180; with_reducible exact Ret.grow _ (HF.out _)) | (go_at_call 142; with_reducible exact Ret.same _ (s_In _ _ _ _)) | (go_at_call 186; with_reducible exact Ret.same _ (i_In _ _ _ _)) | (go_at_call 222; with_reducible exact Ret.same _ (s_Rate _ _)) | (go_at_call 165; with_reducible exact Ret.same _ (i_Rate _ _)) | (go_at_call 262; with_reducible exact Ret.same _ (i_Years _ _)) | (go_at_call 227; with_reducible exact Ret.same _ (s_Amount6 _ _)) | (go_at_call 236; with_reducible exact Ret.same _ (s_Sum7 _ _)))))); refine wpQuiet_nil ?_; intro w' hw'; obtain ⟨x, rfl⟩ := hw'))
  go_ret3
  exact ⟨rfl, (by repeat' (first | (with_reducible exact Up.refl _) | (with_reducible assumption) | (with_reducible refine Up.alloc ?_ _) | (with_reducible refine Up.drew ?_) | (with_reducible refine Up.grow ?_ _) | (with_reducible refine Up.setCell ?_ (by (try simp); (try omega)) _)))⟩
set_option maxRecDepth 100000 in
set_option maxHeartbeats 2000000 in
theorem i_BothAlive (T U : Tab) (x y n : Int) (v u : Value) (w : World) (hv : TabAt w T v) (hu : TabAt w U u) :
    Calls Try.prog 69 #[v, .int .i64 x, u, .int .i64 y, .int .i64 n] w (RetQ3 w (code8 T x U y (inR n 0 150)) (fA (baX T U (ix T x) (ix U y) n.toNat) (abX T U (ix T x) (ix U y)) : Nat) (fB (baX T U (ix T x) (ix U y) n.toNat) (abX T U (ix T x) (ix U y)) : Nat)) := by
  have HC := i_ChkPair T x U y n
  have hv' := hv
  have hu' := hu
  obtain ⟨A, c0, rfl, hc, hm, _, hI⟩ := hv
  obtain ⟨A2, c2, rfl, hc2, hm2, _, hI2⟩ := hu
  by_cases hz : code8 T x U y (inR n 0 150) = 0
  case neg =>
    rw [RetQ3_bad hz]
    replace HC := Lib.hid HC
    (have hz1 : ((code8 T x U y (inR n 0 150)) != 0) = true := (by simpa using hz)); (have hz2 : ((code8 T x U y (inR n 0 150)) == 0) = false := (by simpa using hz))
    clear hz
    generalize code8 T x U y (inR n 0 150) = K at *
    go_enter Try.func69, Try.ntmps69
    go_wp2_with (first | (go_at_call 189; (with_reducible refine (HC.out _ _ _ (hv'.up (by repeat' (first | (with_reducible exact Up.refl _) | (with_reducible assumption) | (with_reducible refine Up.alloc ?_ _) | (with_reducible refine Up.drew ?_) | (with_reducible refine Up.grow ?_ _) | (with_reducible refine Up.setCell ?_ (by (try simp); (try omega)) _)))) (hu'.up (by repeat' (first | (with_reducible exact Up.refl _) | (with_reducible assumption) | (with_reducible refine Up.alloc ?_ _) | (with_reducible refine Up.drew ?_) | (with_reducible refine Up.grow ?_ _) | (with_reducible refine Up.setCell ?_ (by (try simp); (try omega)) _))))).mono ?_); rintro e w' ⟨rfl, hb⟩; first | (obtain ⟨x, rfl⟩ := Grow.on x hb) | (obtain ⟨x, rfl⟩ := Grow.mk' hb)) | (go_at_call 142; (with_reducible refine (s_In _ _ _ _).mono ?_); rintro e w' ⟨rfl, rfl⟩) | (go_at_call 186; (with_reducible refine (i_In _ _ _ _).mono ?_); rintro e w' ⟨rfl, rfl⟩) | (go_at_call 222; (with_reducible refine (s_Rate _ _).mono ?_); rintro e w' ⟨rfl, rfl⟩) | (go_at_call 165; (with_reducible refine (i_Rate _ _).mono ?_); rintro e w' ⟨rfl, rfl⟩) | (go_at_call 262; (with_reducible refine (i_Years _ _).mono ?_); rintro e w' ⟨rfl, rfl⟩) | (go_at_call 227; (with_reducible refine (s_Amount6 _ _).mono ?_); rintro e w' ⟨rfl, rfl⟩) | (go_at_call 236; (with_reducible refine (s_Sum7 _ _).mono ?_); rintro e w' ⟨rfl, rfl⟩) | ((first | with_reducible refine wp_region_in x (by kernel_rfl) (by kernel_rfl) ?_ | with_reducible refine wp_region_here (by kernel_rfl) (by kernel_rfl) ?_); (repeat (go_big_quiet_step ((first | (go_at_call 189; with_reducible exact Ret.grow _ (HC.out _ _ _ (hv'.up (by repeat' (first | (with_reducible exact Up.refl _) | (with_reducible assumption) | (with_reducible refine Up.alloc ?_ _) | (with_reducible refine Up.drew ?_) | (with_reducible refine Up.grow ?_ _) | (with_reducible refine Up.setCell ?_ (by (try simp); (try omega)) _)))) (hu'.up (by repeat' (first | (with_reducible exact Up.refl _) | (with_reducible assumption) | (with_reducible refine Up.alloc ?_ _) | (with_reducible refine Up.drew ?_) | (with_reducible refine Up.grow ?_ _) | (with_reducible refine Up.setCell ?_ (by (try simp); (try omega)) _)))))) | (go_at_call 142; with_reducible exact Ret.same _ (s_In _ _ _ _)) | (go_at_call 186; with_reducible exact Ret.same _ (i_In _ _ _ _)) | (go_at_call 222; with_reducible exact Ret.same _ (s_Rate _ _)) | (go_at_call 165; with_reducible exact Ret.same _ (i_Rate _ _)) | (go_at_call 262; with_reducible exact Ret.same _ (i_Years _ _)) | (go_at_call 227; with_reducible exact Ret.same _ (s_Amount6 _ _)) | (go_at_call 236; with_reducible exact Ret.same _ (s_Sum7 _ _)))))); refine wpQuiet_nil ?_; intro w' hw'; obtain ⟨x, rfl⟩ := hw'))
    go_ret3
    exact ⟨rfl, (by repeat' (first | (with_reducible exact Up.refl _) | (with_reducible assumption) | (with_reducible refine Up.alloc ?_ _) | (with_reducible refine Up.drew ?_) | (with_reducible refine Up.grow ?_ _) | (with_reducible refine Up.setCell ?_ (by (try simp); (try omega)) _)))⟩
  obtain ⟨hT, hU, hb, i, j, rfl, rfl, hx, hy, hi, hj⟩ := code8_ok hz
  have hnb := inR_true.1 hb
  obtain ⟨n, rfl⟩ : ∃ n' : Nat, n = n' := ⟨n.toNat, by omega⟩
  obtain ⟨e1, e2, e3, e4, e5, e6, e7⟩ := two_bd hT hU n hi hj
  have q1 := hT.lo; have q2 := hU.lo
  have w1 : IntKind.i64.wrap (T.first + i + n) = T.first + i + n := IntWalk.i64_in _ (by omega)
  have w2 : IntKind.i64.wrap (U.first + j + n) = U.first + j + n := IntWalk.i64_in _ (by omega)
  have tn := two_nums (hT.lv_bd (i + n)).1 (hT.lv_le i n) (hT.lv_bd i).2 (hU.lv_bd (j + n)).1 (hU.lv_le j n) (hU.lv_bd j).2
  have ba := hT.lv_bd (i + n); have bb := hT.lv_bd i; have bc := hU.lv_bd (j + n); have bd := hU.lv_bd j
  rw [hz, RetQ3_ok, ix_k, ix_k, Int.toNat_natCast]
  rw [hz] at HC
  replace HC := Lib.hid HC
  have H1 := Lib.hid (i_LivesA hT i (by omega))
  have H2 := Lib.hid (i_LivesA hU j (by omega))
  have H3 := Lib.hid (i_LivesKM hT i n (by omega))
  have H4 := Lib.hid (i_LivesKM hU j n (by omega))
  have HF : ∀ w, Calls Try.prog 176 #[.int .i64 (baX T U i j n), .int .i64 (abX T U i j)] w (Ret w (.tuple #[.int .i64 (fA (baX T U i j n) (abX T U i j) : Nat), .int .i64 (fB (baX T U i j n) (abX T U i j) : Nat)])) := fun w => i_Frac _ _ e6 (by omega) (by omega) w
  first | rw [e1, e3] at HF | rw [e2, e3] at HF
  replace HF := Lib.hid HF
  generalize fA (baX T U i j n) (abX T U i j) = F1 at *
  generalize fB (baX T U i j n) (abX T U i j) = F2 at *
  generalize T.lv (i + n) = a at *
  generalize T.lv i = b at *
  generalize U.lv (j + n) = c at *
  generalize U.lv j = d at *
  obtain ⟨t1, t2, t3, t4, t5, t6⟩ := tn
  obtain ⟨O, hO⟩ : ∃ O, oneX a b c d = O := ⟨_, rfl⟩
  rw [hO] at e2 t6
  have hO2 : a * d + c * b - a * c = O := hO
  obtain ⟨P, hP⟩ : ∃ P, a * c = P := ⟨_, rfl⟩
  obtain ⟨Q, hQ⟩ : ∃ Q, b * d = Q := ⟨_, rfl⟩
  obtain ⟨R, hR⟩ : ∃ R, (b - a) * (d - c) = R := ⟨_, rfl⟩
  obtain ⟨X1, hX1⟩ : ∃ X1, a * d = X1 := ⟨_, rfl⟩
  obtain ⟨X2, hX2⟩ : ∃ X2, c * b = X2 := ⟨_, rfl⟩
  try rw [hO]
  try rw [hP]
  try rw [hQ]
  try rw [hO] at HF
  try rw [hP] at HF
  try rw [hQ] at HF
  rw [hP] at e1 t1
  rw [hQ] at e3 t2 t6
  rw [hR] at t3 t6
  rw [hX1, hX2, hP] at hO2
  rw [hX1] at t4
  rw [hX2] at t5
  have r1 : IntKind.i64.wrap (a * c) = P := by rw [hP]; exact IntWalk.i64_in _ (by omega)
  have r2 : IntKind.i64.wrap (b * d) = Q := by rw [hQ]; exact IntWalk.i64_in _ (by omega)
  have r3 : IntKind.i64.wrap (b - a) = b - a := IntWalk.i64_in _ (by omega)
  have r4 : IntKind.i64.wrap (d - c) = d - c := IntWalk.i64_in _ (by omega)
  have r5 : IntKind.i64.wrap ((b - a) * (d - c)) = R := by rw [hR]; exact IntWalk.i64_in _ (by omega)
  have r6 : IntKind.i64.wrap (Q - R) = O := by rw [t6]; exact IntWalk.i64_in _ (by omega)
  have r7 : IntKind.i64.wrap (a * d) = X1 := by rw [hX1]; exact IntWalk.i64_in _ (by omega)
  have r8 : IntKind.i64.wrap (c * b) = X2 := by rw [hX2]; exact IntWalk.i64_in _ (by omega)
  have r9 : IntKind.i64.wrap (X1 + X2) = X1 + X2 := IntWalk.i64_in _ (by omega)
  have r10 : IntKind.i64.wrap (X1 + X2 - P) = O := by rw [hO2]; exact IntWalk.i64_in _ (by omega)
  clear hO hO2 hP hQ hR hX1 hX2 t1 t2 t3 t4 t5 t6 ba bb bc bd
  clear hz hb e1 e2 e3 e4 e5 e6 e7
  go_enter Try.func69, Try.ntmps69
  go_wp2_with (first | (go_at_call 189; (with_reducible refine (HC.out _ _ _ (hv'.up (by repeat' (first | (with_reducible exact Up.refl _) | (with_reducible assumption) | (with_reducible refine Up.alloc ?_ _) | (with_reducible refine Up.drew ?_) | (with_reducible refine Up.grow ?_ _) | (with_reducible refine Up.setCell ?_ (by (try simp); (try omega)) _)))) (hu'.up (by repeat' (first | (with_reducible exact Up.refl _) | (with_reducible assumption) | (with_reducible refine Up.alloc ?_ _) | (with_reducible refine Up.drew ?_) | (with_reducible refine Up.grow ?_ _) | (with_reducible refine Up.setCell ?_ (by (try simp); (try omega)) _))))).mono ?_); rintro e w' ⟨rfl, hb⟩; first | (obtain ⟨x, rfl⟩ := Grow.on x hb) | (obtain ⟨x, rfl⟩ := Grow.mk' hb)) | (go_at_call 161; (with_reducible refine (H1.out _ _ (hv'.up (by repeat' (first | (with_reducible exact Up.refl _) | (with_reducible assumption) | (with_reducible refine Up.alloc ?_ _) | (with_reducible refine Up.drew ?_) | (with_reducible refine Up.grow ?_ _) | (with_reducible refine Up.setCell ?_ (by (try simp); (try omega)) _))))).mono ?_); rintro e w' ⟨rfl, hb⟩; first | (obtain ⟨x, rfl⟩ := Grow.on x hb) | (obtain ⟨x, rfl⟩ := Grow.mk' hb)) | (go_at_call 161; (with_reducible refine (H2.out _ _ (hu'.up (by repeat' (first | (with_reducible exact Up.refl _) | (with_reducible assumption) | (with_reducible refine Up.alloc ?_ _) | (with_reducible refine Up.drew ?_) | (with_reducible refine Up.grow ?_ _) | (with_reducible refine Up.setCell ?_ (by (try simp); (try omega)) _))))).mono ?_); rintro e w' ⟨rfl, hb⟩; first | (obtain ⟨x, rfl⟩ := Grow.on x hb) | (obtain ⟨x, rfl⟩ := Grow.mk' hb)) | (go_at_call 161; (with_reducible refine (H3.out _ _ (hv'.up (by repeat' (first | (with_reducible exact Up.refl _) | (with_reducible assumption) | (with_reducible refine Up.alloc ?_ _) | (with_reducible refine Up.drew ?_) | (with_reducible refine Up.grow ?_ _) | (with_reducible refine Up.setCell ?_ (by (try simp); (try omega)) _))))).mono ?_); rintro e w' ⟨rfl, hb⟩; first | (obtain ⟨x, rfl⟩ := Grow.on x hb) | (obtain ⟨x, rfl⟩ := Grow.mk' hb)) | (go_at_call 161; (with_reducible refine (H4.out _ _ (hu'.up (by repeat' (first | (with_reducible exact Up.refl _) | (with_reducible assumption) | (with_reducible refine Up.alloc ?_ _) | (with_reducible refine Up.drew ?_) | (with_reducible refine Up.grow ?_ _) | (with_reducible refine Up.setCell ?_ (by (try simp); (try omega)) _))))).mono ?_); rintro e w' ⟨rfl, hb⟩; first | (obtain ⟨x, rfl⟩ := Grow.on x hb) | (obtain ⟨x, rfl⟩ := Grow.mk' hb)) | (go_at_call 176; (with_reducible refine (HF.out _).mono ?_); rintro e w' ⟨rfl, hb⟩; first | (obtain ⟨x, rfl⟩ := Grow.on x hb) | (obtain ⟨x, rfl⟩ := Grow.mk' hb)) | (go_at_call 142; (with_reducible refine (s_In _ _ _ _).mono ?_); rintro e w' ⟨rfl, rfl⟩) | (go_at_call 186; (with_reducible refine (i_In _ _ _ _).mono ?_); rintro e w' ⟨rfl, rfl⟩) | (go_at_call 222; (with_reducible refine (s_Rate _ _).mono ?_); rintro e w' ⟨rfl, rfl⟩) | (go_at_call 165; (with_reducible refine (i_Rate _ _).mono ?_); rintro e w' ⟨rfl, rfl⟩) | (go_at_call 262; (with_reducible refine (i_Years _ _).mono ?_); rintro e w' ⟨rfl, rfl⟩) | (go_at_call 227; (with_reducible refine (s_Amount6 _ _).mono ?_); rintro e w' ⟨rfl, rfl⟩) | (go_at_call 236; (with_reducible refine (s_Sum7 _ _).mono ?_); rintro e w' ⟨rfl, rfl⟩) | ((first | with_reducible refine wp_region_in x (by kernel_rfl) (by kernel_rfl) ?_ | with_reducible refine wp_region_here (by kernel_rfl) (by kernel_rfl) ?_); (repeat (go_big_quiet_step ((first | (go_at_call 189; with_reducible exact Ret.grow _ (HC.out _ _ _ (hv'.up (by repeat' (first | (with_reducible exact Up.refl _) | (with_reducible assumption) | (with_reducible refine Up.alloc ?_ _) | (with_reducible refine Up.drew ?_) | (with_reducible refine Up.grow ?_ _) | (with_reducible refine Up.setCell ?_ (by (try simp); (try omega)) _)))) (hu'.up (by repeat' (first | (with_reducible exact Up.refl _) | (with_reducible assumption) | (with_reducible refine Up.alloc ?_ _) | (with_reducible refine Up.drew ?_) | (with_reducible refine Up.grow ?_ _) | (with_reducible refine Up.setCell ?_ (by (try simp); (try omega)) _)))))) | (go_at_call 161; with_reducible exact Ret.grow _ (H1.out _ _ (hv'.up (by repeat' (first | (with_reducible exact Up.refl _) | (with_reducible assumption) | (with_reducible refine Up.alloc ?_ _) | (with_reducible refine Up.drew ?_) | (with_reducible refine Up.grow ?_ _) | (with_reducible refine Up.setCell ?_ (by (try simp); (try omega)) _)))))) | (go_at_call 161; with_reducible exact Ret.grow _ (H2.out _ _ (hu'.up (by repeat' (first | (with_reducible exact Up.refl _) | (with_reducible assumption) | (with_reducible refine Up.alloc ?_ _) | (with_reducible refine Up.drew ?_) | (with_reducible refine Up.grow ?_ _) | (with_reducible refine Up.setCell ?_ (by (try simp); (try omega)) _)))))) | (go_at_call 161; with_reducible exact Ret.grow _ (H3.out _ _ (hv'.up (by repeat' (first | (with_reducible exact Up.refl _) | (with_reducible assumption) | (with_reducible refine Up.alloc ?_ _) | (with_reducible refine Up.drew ?_) | (with_reducible refine Up.grow ?_ _) | (with_reducible refine Up.setCell ?_ (by (try simp); (try omega)) _)))))) | (go_at_call 161; with_reducible exact Ret.grow _ (H4.out _ _ (hu'.up (by repeat' (first | (with_reducible exact Up.refl _) | (with_reducible assumption) | (with_reducible refine Up.alloc ?_ _) | (with_reducible refine Up.drew ?_) | (with_reducible refine Up.grow ?_ _) | (with_reducible refine Up.setCell ?_ (by (try simp); (try omega)) _)))))) | (go_at_call 176; with_reducible exact Ret.grow _ (HF.out _)) | (go_at_call 142; with_reducible exact Ret.same _ (s_In _ _ _ _)) | (go_at_call 186; with_reducible exact Ret.same _ (i_In _ _ _ _)) | (go_at_call 222; with_reducible exact Ret.same _ (s_Rate _ _)) | (go_at_call 165; with_reducible exact Ret.same _ (i_Rate _ _)) | (go_at_call 262; with_reducible exact Ret.same _ (i_Years _ _)) | (go_at_call 227; with_reducible exact Ret.same _ (s_Amount6 _ _)) | (go_at_call 236; with_reducible exact Ret.same _ (s_Sum7 _ _)))))); refine wpQuiet_nil ?_; intro w' hw'; obtain ⟨x, rfl⟩ := hw'))
  go_ret3
  exact ⟨rfl, (by repeat' (first | (with_reducible exact Up.refl _) | (with_reducible assumption) | (with_reducible refine Up.alloc ?_ _) | (with_reducible refine Up.drew ?_) | (with_reducible refine Up.grow ?_ _) | (with_reducible refine Up.setCell ?_ (by (try simp); (try omega)) _)))⟩
set_option maxRecDepth 100000 in
set_option maxHeartbeats 2000000 in
theorem s_OneAlive (T U : Tab) (x y n : Int) (v u : Value) (w : World) (hv : TabAt w T v) (hu : TabAt w U u) :
    Calls Try.prog 72 #[v, .int .i64 x, u, .int .i64 y, .int .i64 n] w (RetQ3 w (code8 T x U y (inR n 0 150)) (fA (oaX T U (ix T x) (ix U y) n.toNat) (abX T U (ix T x) (ix U y)) : Nat) (fB (oaX T U (ix T x) (ix U y) n.toNat) (abX T U (ix T x) (ix U y)) : Nat)) := by
  have HC := s_Code8 T x U y (inR n 0 150)
  have hv' := hv
  have hu' := hu
  obtain ⟨A, c0, rfl, hc, hm, _, hI⟩ := hv
  obtain ⟨A2, c2, rfl, hc2, hm2, _, hI2⟩ := hu
  by_cases hz : code8 T x U y (inR n 0 150) = 0
  case neg =>
    rw [RetQ3_bad hz]
    (have hz1 : ((code8 T x U y (inR n 0 150)) != 0) = true := (by simpa using hz)); (have hz2 : ((code8 T x U y (inR n 0 150)) == 0) = false := (by simpa using hz))
    clear hz
    generalize code8 T x U y (inR n 0 150) = K at *
    replace HC := Lib.hid HC
    go_enter Try.func72, Try.ntmps72
    go_wp2_with (first | (go_at_call 191; (with_reducible refine (HC.out _ _ _ (hv'.up (by repeat' (first | (with_reducible exact Up.refl _) | (with_reducible assumption) | (with_reducible refine Up.alloc ?_ _) | (with_reducible refine Up.drew ?_) | (with_reducible refine Up.grow ?_ _) | (with_reducible refine Up.setCell ?_ (by (try simp); (try omega)) _)))) (hu'.up (by repeat' (first | (with_reducible exact Up.refl _) | (with_reducible assumption) | (with_reducible refine Up.alloc ?_ _) | (with_reducible refine Up.drew ?_) | (with_reducible refine Up.grow ?_ _) | (with_reducible refine Up.setCell ?_ (by (try simp); (try omega)) _))))).mono ?_); rintro e w' ⟨rfl, hb⟩; first | (obtain ⟨x, rfl⟩ := Grow.on x hb) | (obtain ⟨x, rfl⟩ := Grow.mk' hb)) | (go_at_call 142; (with_reducible refine (s_In _ _ _ _).mono ?_); rintro e w' ⟨rfl, rfl⟩) | (go_at_call 186; (with_reducible refine (i_In _ _ _ _).mono ?_); rintro e w' ⟨rfl, rfl⟩) | (go_at_call 222; (with_reducible refine (s_Rate _ _).mono ?_); rintro e w' ⟨rfl, rfl⟩) | (go_at_call 165; (with_reducible refine (i_Rate _ _).mono ?_); rintro e w' ⟨rfl, rfl⟩) | (go_at_call 262; (with_reducible refine (i_Years _ _).mono ?_); rintro e w' ⟨rfl, rfl⟩) | (go_at_call 227; (with_reducible refine (s_Amount6 _ _).mono ?_); rintro e w' ⟨rfl, rfl⟩) | (go_at_call 236; (with_reducible refine (s_Sum7 _ _).mono ?_); rintro e w' ⟨rfl, rfl⟩) | ((first | with_reducible refine wp_region_in x (by kernel_rfl) (by kernel_rfl) ?_ | with_reducible refine wp_region_here (by kernel_rfl) (by kernel_rfl) ?_); (repeat (go_big_quiet_step ((first | (go_at_call 191; with_reducible exact Ret.grow _ (HC.out _ _ _ (hv'.up (by repeat' (first | (with_reducible exact Up.refl _) | (with_reducible assumption) | (with_reducible refine Up.alloc ?_ _) | (with_reducible refine Up.drew ?_) | (with_reducible refine Up.grow ?_ _) | (with_reducible refine Up.setCell ?_ (by (try simp); (try omega)) _)))) (hu'.up (by repeat' (first | (with_reducible exact Up.refl _) | (with_reducible assumption) | (with_reducible refine Up.alloc ?_ _) | (with_reducible refine Up.drew ?_) | (with_reducible refine Up.grow ?_ _) | (with_reducible refine Up.setCell ?_ (by (try simp); (try omega)) _)))))) | (go_at_call 142; with_reducible exact Ret.same _ (s_In _ _ _ _)) | (go_at_call 186; with_reducible exact Ret.same _ (i_In _ _ _ _)) | (go_at_call 222; with_reducible exact Ret.same _ (s_Rate _ _)) | (go_at_call 165; with_reducible exact Ret.same _ (i_Rate _ _)) | (go_at_call 262; with_reducible exact Ret.same _ (i_Years _ _)) | (go_at_call 227; with_reducible exact Ret.same _ (s_Amount6 _ _)) | (go_at_call 236; with_reducible exact Ret.same _ (s_Sum7 _ _)))))); refine wpQuiet_nil ?_; intro w' hw'; obtain ⟨x, rfl⟩ := hw'))
    go_ret3
    exact ⟨rfl, (by repeat' (first | (with_reducible exact Up.refl _) | (with_reducible assumption) | (with_reducible refine Up.alloc ?_ _) | (with_reducible refine Up.drew ?_) | (with_reducible refine Up.grow ?_ _) | (with_reducible refine Up.setCell ?_ (by (try simp); (try omega)) _)))⟩
  have HH := Lib.hid (s_Chances hz)
  rw [hz, RetQ3_ok]
  rw [hz] at HC
  have hF : ∀ w, Calls Try.prog 180 #[.int .i64 (oaX T U (ix T x) (ix U y) n.toNat), .int .i64 (abX T U (ix T x) (ix U y))] w (Ret w (.tuple #[.int .i64 (fA (oaX T U (ix T x) (ix U y) n.toNat) (abX T U (ix T x) (ix U y)) : Nat), .int .i64 (fB (oaX T U (ix T x) (ix U y) n.toNat) (abX T U (ix T x) (ix U y)) : Nat)])) := by
    obtain ⟨hT, hU, hb, i, j, rfl, rfl, hx, hy, hi, hj⟩ := code8_ok hz
    rw [ix_k, ix_k]
    obtain ⟨e1, e2, e3, e4, e5, e6, e7⟩ := two_bd hT hU n.toNat hi hj
    exact fun w => s_Frac _ _ e6 (by omega) (by omega) w
  have HF := Lib.hid hF
  generalize baX T U (ix T x) (ix U y) n.toNat = X at *
  generalize oaX T U (ix T x) (ix U y) n.toNat = Y at *
  generalize abX T U (ix T x) (ix U y) = Z at *
  replace HC := Lib.hid HC
  clear hF hz
  go_enter Try.func72, Try.ntmps72
  go_wp2_with (first | (go_at_call 191; (with_reducible refine (HC.out _ _ _ (hv'.up (by repeat' (first | (with_reducible exact Up.refl _) | (with_reducible assumption) | (with_reducible refine Up.alloc ?_ _) | (with_reducible refine Up.drew ?_) | (with_reducible refine Up.grow ?_ _) | (with_reducible refine Up.setCell ?_ (by (try simp); (try omega)) _)))) (hu'.up (by repeat' (first | (with_reducible exact Up.refl _) | (with_reducible assumption) | (with_reducible refine Up.alloc ?_ _) | (with_reducible refine Up.drew ?_) | (with_reducible refine Up.grow ?_ _) | (with_reducible refine Up.setCell ?_ (by (try simp); (try omega)) _))))).mono ?_); rintro e w' ⟨rfl, hb⟩; first | (obtain ⟨x, rfl⟩ := Grow.on x hb) | (obtain ⟨x, rfl⟩ := Grow.mk' hb)) | (go_at_call 193; (with_reducible refine (HH.out _ _ _ (hv'.up (by repeat' (first | (with_reducible exact Up.refl _) | (with_reducible assumption) | (with_reducible refine Up.alloc ?_ _) | (with_reducible refine Up.drew ?_) | (with_reducible refine Up.grow ?_ _) | (with_reducible refine Up.setCell ?_ (by (try simp); (try omega)) _)))) (hu'.up (by repeat' (first | (with_reducible exact Up.refl _) | (with_reducible assumption) | (with_reducible refine Up.alloc ?_ _) | (with_reducible refine Up.drew ?_) | (with_reducible refine Up.grow ?_ _) | (with_reducible refine Up.setCell ?_ (by (try simp); (try omega)) _))))).mono ?_); rintro e w' ⟨rfl, hb⟩; first | (obtain ⟨x, rfl⟩ := Grow.on x hb) | (obtain ⟨x, rfl⟩ := Grow.mk' hb)) | (go_at_call 180; (with_reducible refine (HF.out _).mono ?_); rintro e w' ⟨rfl, hb⟩; first | (obtain ⟨x, rfl⟩ := Grow.on x hb) | (obtain ⟨x, rfl⟩ := Grow.mk' hb)) | (go_at_call 142; (with_reducible refine (s_In _ _ _ _).mono ?_); rintro e w' ⟨rfl, rfl⟩) | (go_at_call 186; (with_reducible refine (i_In _ _ _ _).mono ?_); rintro e w' ⟨rfl, rfl⟩) | (go_at_call 222; (with_reducible refine (s_Rate _ _).mono ?_); rintro e w' ⟨rfl, rfl⟩) | (go_at_call 165; (with_reducible refine (i_Rate _ _).mono ?_); rintro e w' ⟨rfl, rfl⟩) | (go_at_call 262; (with_reducible refine (i_Years _ _).mono ?_); rintro e w' ⟨rfl, rfl⟩) | (go_at_call 227; (with_reducible refine (s_Amount6 _ _).mono ?_); rintro e w' ⟨rfl, rfl⟩) | (go_at_call 236; (with_reducible refine (s_Sum7 _ _).mono ?_); rintro e w' ⟨rfl, rfl⟩) | ((first | with_reducible refine wp_region_in x (by kernel_rfl) (by kernel_rfl) ?_ | with_reducible refine wp_region_here (by kernel_rfl) (by kernel_rfl) ?_); (repeat (go_big_quiet_step ((first | (go_at_call 191; with_reducible exact Ret.grow _ (HC.out _ _ _ (hv'.up (by repeat' (first | (with_reducible exact Up.refl _) | (with_reducible assumption) | (with_reducible refine Up.alloc ?_ _) | (with_reducible refine Up.drew ?_) | (with_reducible refine Up.grow ?_ _) | (with_reducible refine Up.setCell ?_ (by (try simp); (try omega)) _)))) (hu'.up (by repeat' (first | (with_reducible exact Up.refl _) | (with_reducible assumption) | (with_reducible refine Up.alloc ?_ _) | (with_reducible refine Up.drew ?_) | (with_reducible refine Up.grow ?_ _) | (with_reducible refine Up.setCell ?_ (by (try simp); (try omega)) _)))))) | (go_at_call 193; with_reducible exact Ret.grow _ (HH.out _ _ _ (hv'.up (by repeat' (first | (with_reducible exact Up.refl _) | (with_reducible assumption) | (with_reducible refine Up.alloc ?_ _) | (with_reducible refine Up.drew ?_) | (with_reducible refine Up.grow ?_ _) | (with_reducible refine Up.setCell ?_ (by (try simp); (try omega)) _)))) (hu'.up (by repeat' (first | (with_reducible exact Up.refl _) | (with_reducible assumption) | (with_reducible refine Up.alloc ?_ _) | (with_reducible refine Up.drew ?_) | (with_reducible refine Up.grow ?_ _) | (with_reducible refine Up.setCell ?_ (by (try simp); (try omega)) _)))))) | (go_at_call 180; with_reducible exact Ret.grow _ (HF.out _)) | (go_at_call 142; with_reducible exact Ret.same _ (s_In _ _ _ _)) | (go_at_call 186; with_reducible exact Ret.same _ (i_In _ _ _ _)) | (go_at_call 222; with_reducible exact Ret.same _ (s_Rate _ _)) | (go_at_call 165; with_reducible exact Ret.same _ (i_Rate _ _)) | (go_at_call 262; with_reducible exact Ret.same _ (i_Years _ _)) | (go_at_call 227; with_reducible exact Ret.same _ (s_Amount6 _ _)) | (go_at_call 236; with_reducible exact Ret.same _ (s_Sum7 _ _)))))); refine wpQuiet_nil ?_; intro w' hw'; obtain ⟨x, rfl⟩ := hw'))
  go_ret3
  exact ⟨rfl, (by repeat' (first | (with_reducible exact Up.refl _) | (with_reducible assumption) | (with_reducible refine Up.alloc ?_ _) | (with_reducible refine Up.drew ?_) | (with_reducible refine Up.grow ?_ _) | (with_reducible refine Up.setCell ?_ (by (try simp); (try omega)) _)))⟩
set_option maxRecDepth 100000 in
set_option maxHeartbeats 2000000 in
theorem i_OneAlive (T U : Tab) (x y n : Int) (v u : Value) (w : World) (hv : TabAt w T v) (hu : TabAt w U u) :
    Calls Try.prog 71 #[v, .int .i64 x, u, .int .i64 y, .int .i64 n] w (RetQ3 w (code8 T x U y (inR n 0 150)) (fA (oaX T U (ix T x) (ix U y) n.toNat) (abX T U (ix T x) (ix U y)) : Nat) (fB (oaX T U (ix T x) (ix U y) n.toNat) (abX T U (ix T x) (ix U y)) : Nat)) := by
  have HC := i_ChkPair T x U y n
  have hv' := hv
  have hu' := hu
  obtain ⟨A, c0, rfl, hc, hm, _, hI⟩ := hv
  obtain ⟨A2, c2, rfl, hc2, hm2, _, hI2⟩ := hu
  by_cases hz : code8 T x U y (inR n 0 150) = 0
  case neg =>
    rw [RetQ3_bad hz]
    replace HC := Lib.hid HC
    (have hz1 : ((code8 T x U y (inR n 0 150)) != 0) = true := (by simpa using hz)); (have hz2 : ((code8 T x U y (inR n 0 150)) == 0) = false := (by simpa using hz))
    clear hz
    generalize code8 T x U y (inR n 0 150) = K at *
    go_enter Try.func71, Try.ntmps71
    go_wp2_with (first | (go_at_call 189; (with_reducible refine (HC.out _ _ _ (hv'.up (by repeat' (first | (with_reducible exact Up.refl _) | (with_reducible assumption) | (with_reducible refine Up.alloc ?_ _) | (with_reducible refine Up.drew ?_) | (with_reducible refine Up.grow ?_ _) | (with_reducible refine Up.setCell ?_ (by (try simp); (try omega)) _)))) (hu'.up (by repeat' (first | (with_reducible exact Up.refl _) | (with_reducible assumption) | (with_reducible refine Up.alloc ?_ _) | (with_reducible refine Up.drew ?_) | (with_reducible refine Up.grow ?_ _) | (with_reducible refine Up.setCell ?_ (by (try simp); (try omega)) _))))).mono ?_); rintro e w' ⟨rfl, hb⟩; first | (obtain ⟨x, rfl⟩ := Grow.on x hb) | (obtain ⟨x, rfl⟩ := Grow.mk' hb)) | (go_at_call 142; (with_reducible refine (s_In _ _ _ _).mono ?_); rintro e w' ⟨rfl, rfl⟩) | (go_at_call 186; (with_reducible refine (i_In _ _ _ _).mono ?_); rintro e w' ⟨rfl, rfl⟩) | (go_at_call 222; (with_reducible refine (s_Rate _ _).mono ?_); rintro e w' ⟨rfl, rfl⟩) | (go_at_call 165; (with_reducible refine (i_Rate _ _).mono ?_); rintro e w' ⟨rfl, rfl⟩) | (go_at_call 262; (with_reducible refine (i_Years _ _).mono ?_); rintro e w' ⟨rfl, rfl⟩) | (go_at_call 227; (with_reducible refine (s_Amount6 _ _).mono ?_); rintro e w' ⟨rfl, rfl⟩) | (go_at_call 236; (with_reducible refine (s_Sum7 _ _).mono ?_); rintro e w' ⟨rfl, rfl⟩) | ((first | with_reducible refine wp_region_in x (by kernel_rfl) (by kernel_rfl) ?_ | with_reducible refine wp_region_here (by kernel_rfl) (by kernel_rfl) ?_); (repeat (go_big_quiet_step ((first | (go_at_call 189; with_reducible exact Ret.grow _ (HC.out _ _ _ (hv'.up (by repeat' (first | (with_reducible exact Up.refl _) | (with_reducible assumption) | (with_reducible refine Up.alloc ?_ _) | (with_reducible refine Up.drew ?_) | (with_reducible refine Up.grow ?_ _) | (with_reducible refine Up.setCell ?_ (by (try simp); (try omega)) _)))) (hu'.up (by repeat' (first | (with_reducible exact Up.refl _) | (with_reducible assumption) | (with_reducible refine Up.alloc ?_ _) | (with_reducible refine Up.drew ?_) | (with_reducible refine Up.grow ?_ _) | (with_reducible refine Up.setCell ?_ (by (try simp); (try omega)) _)))))) | (go_at_call 142; with_reducible exact Ret.same _ (s_In _ _ _ _)) | (go_at_call 186; with_reducible exact Ret.same _ (i_In _ _ _ _)) | (go_at_call 222; with_reducible exact Ret.same _ (s_Rate _ _)) | (go_at_call 165; with_reducible exact Ret.same _ (i_Rate _ _)) | (go_at_call 262; with_reducible exact Ret.same _ (i_Years _ _)) | (go_at_call 227; with_reducible exact Ret.same _ (s_Amount6 _ _)) | (go_at_call 236; with_reducible exact Ret.same _ (s_Sum7 _ _)))))); refine wpQuiet_nil ?_; intro w' hw'; obtain ⟨x, rfl⟩ := hw'))
    go_ret3
    exact ⟨rfl, (by repeat' (first | (with_reducible exact Up.refl _) | (with_reducible assumption) | (with_reducible refine Up.alloc ?_ _) | (with_reducible refine Up.drew ?_) | (with_reducible refine Up.grow ?_ _) | (with_reducible refine Up.setCell ?_ (by (try simp); (try omega)) _)))⟩
  obtain ⟨hT, hU, hb, i, j, rfl, rfl, hx, hy, hi, hj⟩ := code8_ok hz
  have hnb := inR_true.1 hb
  obtain ⟨n, rfl⟩ : ∃ n' : Nat, n = n' := ⟨n.toNat, by omega⟩
  obtain ⟨e1, e2, e3, e4, e5, e6, e7⟩ := two_bd hT hU n hi hj
  have q1 := hT.lo; have q2 := hU.lo
  have w1 : IntKind.i64.wrap (T.first + i + n) = T.first + i + n := IntWalk.i64_in _ (by omega)
  have w2 : IntKind.i64.wrap (U.first + j + n) = U.first + j + n := IntWalk.i64_in _ (by omega)
  have tn := two_nums (hT.lv_bd (i + n)).1 (hT.lv_le i n) (hT.lv_bd i).2 (hU.lv_bd (j + n)).1 (hU.lv_le j n) (hU.lv_bd j).2
  have ba := hT.lv_bd (i + n); have bb := hT.lv_bd i; have bc := hU.lv_bd (j + n); have bd := hU.lv_bd j
  rw [hz, RetQ3_ok, ix_k, ix_k, Int.toNat_natCast]
  rw [hz] at HC
  replace HC := Lib.hid HC
  have H1 := Lib.hid (i_LivesA hT i (by omega))
  have H2 := Lib.hid (i_LivesA hU j (by omega))
  have H3 := Lib.hid (i_LivesKM hT i n (by omega))
  have H4 := Lib.hid (i_LivesKM hU j n (by omega))
  have HF : ∀ w, Calls Try.prog 176 #[.int .i64 (oaX T U i j n), .int .i64 (abX T U i j)] w (Ret w (.tuple #[.int .i64 (fA (oaX T U i j n) (abX T U i j) : Nat), .int .i64 (fB (oaX T U i j n) (abX T U i j) : Nat)])) := fun w => i_Frac _ _ e6 (by omega) (by omega) w
  first | rw [e1, e3] at HF | rw [e2, e3] at HF
  replace HF := Lib.hid HF
  generalize fA (oaX T U i j n) (abX T U i j) = F1 at *
  generalize fB (oaX T U i j n) (abX T U i j) = F2 at *
  generalize T.lv (i + n) = a at *
  generalize T.lv i = b at *
  generalize U.lv (j + n) = c at *
  generalize U.lv j = d at *
  obtain ⟨t1, t2, t3, t4, t5, t6⟩ := tn
  obtain ⟨O, hO⟩ : ∃ O, oneX a b c d = O := ⟨_, rfl⟩
  rw [hO] at e2 t6
  have hO2 : a * d + c * b - a * c = O := hO
  obtain ⟨P, hP⟩ : ∃ P, a * c = P := ⟨_, rfl⟩
  obtain ⟨Q, hQ⟩ : ∃ Q, b * d = Q := ⟨_, rfl⟩
  obtain ⟨R, hR⟩ : ∃ R, (b - a) * (d - c) = R := ⟨_, rfl⟩
  obtain ⟨X1, hX1⟩ : ∃ X1, a * d = X1 := ⟨_, rfl⟩
  obtain ⟨X2, hX2⟩ : ∃ X2, c * b = X2 := ⟨_, rfl⟩
  try rw [hO]
  try rw [hP]
  try rw [hQ]
  try rw [hO] at HF
  try rw [hP] at HF
  try rw [hQ] at HF
  rw [hP] at e1 t1
  rw [hQ] at e3 t2 t6
  rw [hR] at t3 t6
  rw [hX1, hX2, hP] at hO2
  rw [hX1] at t4
  rw [hX2] at t5
  have r1 : IntKind.i64.wrap (a * c) = P := by rw [hP]; exact IntWalk.i64_in _ (by omega)
  have r2 : IntKind.i64.wrap (b * d) = Q := by rw [hQ]; exact IntWalk.i64_in _ (by omega)
  have r3 : IntKind.i64.wrap (b - a) = b - a := IntWalk.i64_in _ (by omega)
  have r4 : IntKind.i64.wrap (d - c) = d - c := IntWalk.i64_in _ (by omega)
  have r5 : IntKind.i64.wrap ((b - a) * (d - c)) = R := by rw [hR]; exact IntWalk.i64_in _ (by omega)
  have r6 : IntKind.i64.wrap (Q - R) = O := by rw [t6]; exact IntWalk.i64_in _ (by omega)
  have r7 : IntKind.i64.wrap (a * d) = X1 := by rw [hX1]; exact IntWalk.i64_in _ (by omega)
  have r8 : IntKind.i64.wrap (c * b) = X2 := by rw [hX2]; exact IntWalk.i64_in _ (by omega)
  have r9 : IntKind.i64.wrap (X1 + X2) = X1 + X2 := IntWalk.i64_in _ (by omega)
  have r10 : IntKind.i64.wrap (X1 + X2 - P) = O := by rw [hO2]; exact IntWalk.i64_in _ (by omega)
  clear hO hO2 hP hQ hR hX1 hX2 t1 t2 t3 t4 t5 t6 ba bb bc bd
  clear hz hb e1 e2 e3 e4 e5 e6 e7
  go_enter Try.func71, Try.ntmps71
  go_wp2_with (first | (go_at_call 189; (with_reducible refine (HC.out _ _ _ (hv'.up (by repeat' (first | (with_reducible exact Up.refl _) | (with_reducible assumption) | (with_reducible refine Up.alloc ?_ _) | (with_reducible refine Up.drew ?_) | (with_reducible refine Up.grow ?_ _) | (with_reducible refine Up.setCell ?_ (by (try simp); (try omega)) _)))) (hu'.up (by repeat' (first | (with_reducible exact Up.refl _) | (with_reducible assumption) | (with_reducible refine Up.alloc ?_ _) | (with_reducible refine Up.drew ?_) | (with_reducible refine Up.grow ?_ _) | (with_reducible refine Up.setCell ?_ (by (try simp); (try omega)) _))))).mono ?_); rintro e w' ⟨rfl, hb⟩; first | (obtain ⟨x, rfl⟩ := Grow.on x hb) | (obtain ⟨x, rfl⟩ := Grow.mk' hb)) | (go_at_call 161; (with_reducible refine (H1.out _ _ (hv'.up (by repeat' (first | (with_reducible exact Up.refl _) | (with_reducible assumption) | (with_reducible refine Up.alloc ?_ _) | (with_reducible refine Up.drew ?_) | (with_reducible refine Up.grow ?_ _) | (with_reducible refine Up.setCell ?_ (by (try simp); (try omega)) _))))).mono ?_); rintro e w' ⟨rfl, hb⟩; first | (obtain ⟨x, rfl⟩ := Grow.on x hb) | (obtain ⟨x, rfl⟩ := Grow.mk' hb)) | (go_at_call 161; (with_reducible refine (H2.out _ _ (hu'.up (by repeat' (first | (with_reducible exact Up.refl _) | (with_reducible assumption) | (with_reducible refine Up.alloc ?_ _) | (with_reducible refine Up.drew ?_) | (with_reducible refine Up.grow ?_ _) | (with_reducible refine Up.setCell ?_ (by (try simp); (try omega)) _))))).mono ?_); rintro e w' ⟨rfl, hb⟩; first | (obtain ⟨x, rfl⟩ := Grow.on x hb) | (obtain ⟨x, rfl⟩ := Grow.mk' hb)) | (go_at_call 161; (with_reducible refine (H3.out _ _ (hv'.up (by repeat' (first | (with_reducible exact Up.refl _) | (with_reducible assumption) | (with_reducible refine Up.alloc ?_ _) | (with_reducible refine Up.drew ?_) | (with_reducible refine Up.grow ?_ _) | (with_reducible refine Up.setCell ?_ (by (try simp); (try omega)) _))))).mono ?_); rintro e w' ⟨rfl, hb⟩; first | (obtain ⟨x, rfl⟩ := Grow.on x hb) | (obtain ⟨x, rfl⟩ := Grow.mk' hb)) | (go_at_call 161; (with_reducible refine (H4.out _ _ (hu'.up (by repeat' (first | (with_reducible exact Up.refl _) | (with_reducible assumption) | (with_reducible refine Up.alloc ?_ _) | (with_reducible refine Up.drew ?_) | (with_reducible refine Up.grow ?_ _) | (with_reducible refine Up.setCell ?_ (by (try simp); (try omega)) _))))).mono ?_); rintro e w' ⟨rfl, hb⟩; first | (obtain ⟨x, rfl⟩ := Grow.on x hb) | (obtain ⟨x, rfl⟩ := Grow.mk' hb)) | (go_at_call 176; (with_reducible refine (HF.out _).mono ?_); rintro e w' ⟨rfl, hb⟩; first | (obtain ⟨x, rfl⟩ := Grow.on x hb) | (obtain ⟨x, rfl⟩ := Grow.mk' hb)) | (go_at_call 142; (with_reducible refine (s_In _ _ _ _).mono ?_); rintro e w' ⟨rfl, rfl⟩) | (go_at_call 186; (with_reducible refine (i_In _ _ _ _).mono ?_); rintro e w' ⟨rfl, rfl⟩) | (go_at_call 222; (with_reducible refine (s_Rate _ _).mono ?_); rintro e w' ⟨rfl, rfl⟩) | (go_at_call 165; (with_reducible refine (i_Rate _ _).mono ?_); rintro e w' ⟨rfl, rfl⟩) | (go_at_call 262; (with_reducible refine (i_Years _ _).mono ?_); rintro e w' ⟨rfl, rfl⟩) | (go_at_call 227; (with_reducible refine (s_Amount6 _ _).mono ?_); rintro e w' ⟨rfl, rfl⟩) | (go_at_call 236; (with_reducible refine (s_Sum7 _ _).mono ?_); rintro e w' ⟨rfl, rfl⟩) | ((first | with_reducible refine wp_region_in x (by kernel_rfl) (by kernel_rfl) ?_ | with_reducible refine wp_region_here (by kernel_rfl) (by kernel_rfl) ?_); (repeat (go_big_quiet_step ((first | (go_at_call 189; with_reducible exact Ret.grow _ (HC.out _ _ _ (hv'.up (by repeat' (first | (with_reducible exact Up.refl _) | (with_reducible assumption) | (with_reducible refine Up.alloc ?_ _) | (with_reducible refine Up.drew ?_) | (with_reducible refine Up.grow ?_ _) | (with_reducible refine Up.setCell ?_ (by (try simp); (try omega)) _)))) (hu'.up (by repeat' (first | (with_reducible exact Up.refl _) | (with_reducible assumption) | (with_reducible refine Up.alloc ?_ _) | (with_reducible refine Up.drew ?_) | (with_reducible refine Up.grow ?_ _) | (with_reducible refine Up.setCell ?_ (by (try simp); (try omega)) _)))))) | (go_at_call 161; with_reducible exact Ret.grow _ (H1.out _ _ (hv'.up (by repeat' (first | (with_reducible exact Up.refl _) | (with_reducible assumption) | (with_reducible refine Up.alloc ?_ _) | (with_reducible refine Up.drew ?_) | (with_reducible refine Up.grow ?_ _) | (with_reducible refine Up.setCell ?_ (by (try simp); (try omega)) _)))))) | (go_at_call 161; with_reducible exact Ret.grow _ (H2.out _ _ (hu'.up (by repeat' (first | (with_reducible exact Up.refl _) | (with_reducible assumption) | (with_reducible refine Up.alloc ?_ _) | (with_reducible refine Up.drew ?_) | (with_reducible refine Up.grow ?_ _) | (with_reducible refine Up.setCell ?_ (by (try simp); (try omega)) _)))))) | (go_at_call 161; with_reducible exact Ret.grow _ (H3.out _ _ (hv'.up (by repeat' (first | (with_reducible exact Up.refl _) | (with_reducible assumption) | (with_reducible refine Up.alloc ?_ _) | (with_reducible refine Up.drew ?_) | (with_reducible refine Up.grow ?_ _) | (with_reducible refine Up.setCell ?_ (by (try simp); (try omega)) _)))))) | (go_at_call 161; with_reducible exact Ret.grow _ (H4.out _ _ (hu'.up (by repeat' (first | (with_reducible exact Up.refl _) | (with_reducible assumption) | (with_reducible refine Up.alloc ?_ _) | (with_reducible refine Up.drew ?_) | (with_reducible refine Up.grow ?_ _) | (with_reducible refine Up.setCell ?_ (by (try simp); (try omega)) _)))))) | (go_at_call 176; with_reducible exact Ret.grow _ (HF.out _)) | (go_at_call 142; with_reducible exact Ret.same _ (s_In _ _ _ _)) | (go_at_call 186; with_reducible exact Ret.same _ (i_In _ _ _ _)) | (go_at_call 222; with_reducible exact Ret.same _ (s_Rate _ _)) | (go_at_call 165; with_reducible exact Ret.same _ (i_Rate _ _)) | (go_at_call 262; with_reducible exact Ret.same _ (i_Years _ _)) | (go_at_call 227; with_reducible exact Ret.same _ (s_Amount6 _ _)) | (go_at_call 236; with_reducible exact Ret.same _ (s_Sum7 _ _)))))); refine wpQuiet_nil ?_; intro w' hw'; obtain ⟨x, rfl⟩ := hw'))
  go_ret3
  exact ⟨rfl, (by repeat' (first | (with_reducible exact Up.refl _) | (with_reducible assumption) | (with_reducible refine Up.alloc ?_ _) | (with_reducible refine Up.drew ?_) | (with_reducible refine Up.grow ?_ _) | (with_reducible refine Up.setCell ?_ (by (try simp); (try omega)) _)))⟩
end Go.Proofs.Ytdeoampkbbbleaa
