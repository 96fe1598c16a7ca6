/- Contracts of the program's assurances. Condition: the slice reads as the table's numbers. -/
import Derived.Test.YtfelomijaimloaaI07
import Derived.Test.YtfelomijaimloaaIMd
namespace Go.Proofs.Ytfelomijaimloaa
open Go.RowKit Pu

/-- checkAssurance with a code that is not none. -/
theorem i_ChkPB {T : Tab} {r kind age n m K : Int} (hK : code7 T r kind age n (inR m 1 100000000) = K) (hz : ¬ K = 0) (v : Value) (w : World) (hv : TabAt w T v) :
    Calls Try.prog 190 #[v, .int .i64 r, .int .i64 kind, .int .i64 age, .int .i64 n, .int .i64 m] w (Ret w (.tuple #[.agg #[.int .i64 0, .int .i64 0, .int .i64 0], .int .i64 K])) := by
  have h := i_ChkP T r kind age n m v w hv
  rw [hK, RetPP_bad hz] at h; exact h
theorem i_ChkPK {T : Tab} {r kind m : Int} {k n : Nat} (hK : code7 T r kind (T.first + k) n (inR m 1 100000000) = 0) (v : Value) (w : World) (hv : TabAt w T v) :
    Calls Try.prog 190 #[v, .int .i64 r, .int .i64 kind, .int .i64 (T.first + k), .int .i64 n, .int .i64 m] w (Ret w (.tuple #[.agg #[.int .i64 (T.top r kind k n), .int .i64 (T.D r k), .int .i64 (T.base r kind k n)], .int .i64 0])) := by
  have h := i_ChkP T r kind (T.first + k) n m v w hv
  rw [hK, RetPP_ok, ix_k, Int.toNat_natCast] at h; exact h

set_option maxRecDepth 100000 in
theorem i_AP (T : Tab) (r kind age n m : Int) (v : Value) (w : World) (hv : TabAt w T v) :
    Calls Try.prog 137 #[v, .int .i64 r, .int .i64 kind, .int .i64 age, .int .i64 n, .int .i64 m] w (RetQ w (apC T r kind age n m) (apV T r kind age n m)) := by
  have hv' := hv
  obtain ⟨A, c, rfl, hc, hm, _, hI⟩ := hv
  unfold apC
  by_cases hz : code7 T r kind age n (inR m 1 100000000) = 0
  case neg =>
    rw [RetQ_bad hz]
    have HC := Lib.hid (i_ChkPB (T := T) (r := r) (kind := kind) (age := age) (n := n) (m := m) rfl hz)
    (have hz1 : ((code7 T r kind age n (inR m 1 100000000)) != 0) = true := (by simpa using hz)); (have hz2 : ((code7 T r kind age n (inR m 1 100000000)) == 0) = false := (by simpa using hz))
    clear hz
    go_enter Try.func137, Try.ntmps137
    go_wp2_with (first | (go_at_call 190; (with_reducible refine (HC.out _ _ (hv'.up (by repeat' (first | (with_reducible exact Up.refl _) | (with_reducible assumption) | (with_reducible refine Up.alloc ?_ _) | (with_reducible refine Up.drew ?_) | (with_reducible refine Up.grow ?_ _) | (with_reducible refine Up.setCell ?_ (by (try simp); (try omega)) _))))).mono ?_); rintro e w' ⟨rfl, hb⟩; first | (obtain ⟨x, rfl⟩ := Grow.on x hb) | (obtain ⟨x, rfl⟩ := Grow.mk' hb)) | (go_at_call 118; (with_reducible refine (s_In _ _ _ _).mono ?_); rintro e w' ⟨rfl, rfl⟩) | (go_at_call 123; (with_reducible refine (i_In _ _ _ _).mono ?_); rintro e w' ⟨rfl, rfl⟩) | (go_at_call 165; (with_reducible refine (s_Rate _ _).mono ?_); rintro e w' ⟨rfl, rfl⟩) | (go_at_call 169; (with_reducible refine (i_Rate _ _).mono ?_); rintro e w' ⟨rfl, rfl⟩) | (go_at_call 180; (with_reducible refine (i_Years _ _).mono ?_); rintro e w' ⟨rfl, rfl⟩) | (go_at_call 166; (with_reducible refine (s_Amount6 _ _).mono ?_); rintro e w' ⟨rfl, rfl⟩) | (go_at_call 120; (with_reducible refine (s_Sum7 _ _).mono ?_); rintro e w' ⟨rfl, rfl⟩) | ((first | with_reducible refine wp_region_in x (by kernel_rfl) (by kernel_rfl) ?_ | with_reducible refine wp_region_here (by kernel_rfl) (by kernel_rfl) ?_); (repeat (go_big_quiet_step ((first | (go_at_call 190; with_reducible exact Ret.grow _ (HC.out _ _ (hv'.up (by repeat' (first | (with_reducible exact Up.refl _) | (with_reducible assumption) | (with_reducible refine Up.alloc ?_ _) | (with_reducible refine Up.drew ?_) | (with_reducible refine Up.grow ?_ _) | (with_reducible refine Up.setCell ?_ (by (try simp); (try omega)) _)))))) | (go_at_call 118; with_reducible exact Ret.same _ (s_In _ _ _ _)) | (go_at_call 123; with_reducible exact Ret.same _ (i_In _ _ _ _)) | (go_at_call 165; with_reducible exact Ret.same _ (s_Rate _ _)) | (go_at_call 169; with_reducible exact Ret.same _ (i_Rate _ _)) | (go_at_call 180; with_reducible exact Ret.same _ (i_Years _ _)) | (go_at_call 166; with_reducible exact Ret.same _ (s_Amount6 _ _)) | (go_at_call 120; with_reducible exact Ret.same _ (s_Sum7 _ _)))))); refine wpQuiet_nil ?_; intro w' hw'; obtain ⟨x, rfl⟩ := hw'))
    go_ret2
    exact ⟨rfl, (by repeat' (first | (with_reducible exact Up.refl _) | (with_reducible assumption) | (with_reducible refine Up.alloc ?_ _) | (with_reducible refine Up.drew ?_) | (with_reducible refine Up.grow ?_ _) | (with_reducible refine Up.setCell ?_ (by (try simp); (try omega)) _)))⟩
  obtain ⟨hT, h0, h1, hm1, hk1, hk2, k, n, rfl, rfl, hkn, hn, hl, hd⟩ := code7_ok hz
  have HC := Lib.hid (i_ChkPK hz)
  rw [hz, RetQ_ok]
  unfold apV
  rw [ix_k, Int.toNat_natCast]
  have b1 := inR_true.1 hm1
  have b2 := hT.top_bd h0 kind k n
  have b4 := hT.D_bd h0 k
  have b5 := top_q hT h0 hd (kind := kind) (m := n) (x := m) (by omega) (by omega)
  have HU := Lib.hid (i_Priced m (T.top r kind k n) (T.D r k) (by omega) (by omega) (by omega) (by omega) (by omega) (by omega) (by omega))
  clear hz hkn hm1 hd
  generalize up m (T.top r kind k n) (T.D r k) = U at *
  generalize T.top r kind k n = N at *
  generalize T.base r kind k n = B at *
  generalize T.D r k = D at *
  go_enter Try.func137, Try.ntmps137
  go_wp2_with (first | (go_at_call 190; (with_reducible refine (HC.out _ _ (hv'.up (by repeat' (first | (with_reducible exact Up.refl _) | (with_reducible assumption) | (with_reducible refine Up.alloc ?_ _) | (with_reducible refine Up.drew ?_) | (with_reducible refine Up.grow ?_ _) | (with_reducible refine Up.setCell ?_ (by (try simp); (try omega)) _))))).mono ?_); rintro e w' ⟨rfl, hb⟩; first | (obtain ⟨x, rfl⟩ := Grow.on x hb) | (obtain ⟨x, rfl⟩ := Grow.mk' hb)) | (go_at_call 157; (with_reducible refine (HU.out _).mono ?_); rintro e w' ⟨rfl, hb⟩; first | (obtain ⟨x, rfl⟩ := Grow.on x hb) | (obtain ⟨x, rfl⟩ := Grow.mk' hb)) | (go_at_call 118; (with_reducible refine (s_In _ _ _ _).mono ?_); rintro e w' ⟨rfl, rfl⟩) | (go_at_call 123; (with_reducible refine (i_In _ _ _ _).mono ?_); rintro e w' ⟨rfl, rfl⟩) | (go_at_call 165; (with_reducible refine (s_Rate _ _).mono ?_); rintro e w' ⟨rfl, rfl⟩) | (go_at_call 169; (with_reducible refine (i_Rate _ _).mono ?_); rintro e w' ⟨rfl, rfl⟩) | (go_at_call 180; (with_reducible refine (i_Years _ _).mono ?_); rintro e w' ⟨rfl, rfl⟩) | (go_at_call 166; (with_reducible refine (s_Amount6 _ _).mono ?_); rintro e w' ⟨rfl, rfl⟩) | (go_at_call 120; (with_reducible refine (s_Sum7 _ _).mono ?_); rintro e w' ⟨rfl, rfl⟩) | ((first | with_reducible refine wp_region_in x (by kernel_rfl) (by kernel_rfl) ?_ | with_reducible refine wp_region_here (by kernel_rfl) (by kernel_rfl) ?_); (repeat (go_big_quiet_step ((first | (go_at_call 190; with_reducible exact Ret.grow _ (HC.out _ _ (hv'.up (by repeat' (first | (with_reducible exact Up.refl _) | (with_reducible assumption) | (with_reducible refine Up.alloc ?_ _) | (with_reducible refine Up.drew ?_) | (with_reducible refine Up.grow ?_ _) | (with_reducible refine Up.setCell ?_ (by (try simp); (try omega)) _)))))) | (go_at_call 157; with_reducible exact Ret.grow _ (HU.out _)) | (go_at_call 118; with_reducible exact Ret.same _ (s_In _ _ _ _)) | (go_at_call 123; with_reducible exact Ret.same _ (i_In _ _ _ _)) | (go_at_call 165; with_reducible exact Ret.same _ (s_Rate _ _)) | (go_at_call 169; with_reducible exact Ret.same _ (i_Rate _ _)) | (go_at_call 180; with_reducible exact Ret.same _ (i_Years _ _)) | (go_at_call 166; with_reducible exact Ret.same _ (s_Amount6 _ _)) | (go_at_call 120; with_reducible exact Ret.same _ (s_Sum7 _ _)))))); refine wpQuiet_nil ?_; intro w' hw'; obtain ⟨x, rfl⟩ := hw'))
  go_ret2
  exact ⟨rfl, (by repeat' (first | (with_reducible exact Up.refl _) | (with_reducible assumption) | (with_reducible refine Up.alloc ?_ _) | (with_reducible refine Up.drew ?_) | (with_reducible refine Up.grow ?_ _) | (with_reducible refine Up.setCell ?_ (by (try simp); (try omega)) _)))⟩

set_option maxRecDepth 100000 in
theorem i_LP (T : Tab) (r kind age n m : Int) (v : Value) (w : World) (hv : TabAt w T v) :
    Calls Try.prog 194 #[v, .int .i64 r, .int .i64 kind, .int .i64 age, .int .i64 n, .int .i64 m] w (RetQ w (apC T r kind age n m) (lpV T r kind age n m)) := by
  have hv' := hv
  obtain ⟨A, c, rfl, hc, hm, _, hI⟩ := hv
  unfold apC
  by_cases hz : code7 T r kind age n (inR m 1 100000000) = 0
  case neg =>
    rw [RetQ_bad hz]
    have HC := Lib.hid (i_ChkPB (T := T) (r := r) (kind := kind) (age := age) (n := n) (m := m) rfl hz)
    (have hz1 : ((code7 T r kind age n (inR m 1 100000000)) != 0) = true := (by simpa using hz)); (have hz2 : ((code7 T r kind age n (inR m 1 100000000)) == 0) = false := (by simpa using hz))
    clear hz
    go_enter Try.func194, Try.ntmps194
    go_wp2_with (first | (go_at_call 190; (with_reducible refine (HC.out _ _ (hv'.up (by repeat' (first | (with_reducible exact Up.refl _) | (with_reducible assumption) | (with_reducible refine Up.alloc ?_ _) | (with_reducible refine Up.drew ?_) | (with_reducible refine Up.grow ?_ _) | (with_reducible refine Up.setCell ?_ (by (try simp); (try omega)) _))))).mono ?_); rintro e w' ⟨rfl, hb⟩; first | (obtain ⟨x, rfl⟩ := Grow.on x hb) | (obtain ⟨x, rfl⟩ := Grow.mk' hb)) | (go_at_call 118; (with_reducible refine (s_In _ _ _ _).mono ?_); rintro e w' ⟨rfl, rfl⟩) | (go_at_call 123; (with_reducible refine (i_In _ _ _ _).mono ?_); rintro e w' ⟨rfl, rfl⟩) | (go_at_call 165; (with_reducible refine (s_Rate _ _).mono ?_); rintro e w' ⟨rfl, rfl⟩) | (go_at_call 169; (with_reducible refine (i_Rate _ _).mono ?_); rintro e w' ⟨rfl, rfl⟩) | (go_at_call 180; (with_reducible refine (i_Years _ _).mono ?_); rintro e w' ⟨rfl, rfl⟩) | (go_at_call 166; (with_reducible refine (s_Amount6 _ _).mono ?_); rintro e w' ⟨rfl, rfl⟩) | (go_at_call 120; (with_reducible refine (s_Sum7 _ _).mono ?_); rintro e w' ⟨rfl, rfl⟩) | ((first | with_reducible refine wp_region_in x (by kernel_rfl) (by kernel_rfl) ?_ | with_reducible refine wp_region_here (by kernel_rfl) (by kernel_rfl) ?_); (repeat (go_big_quiet_step ((first | (go_at_call 190; with_reducible exact Ret.grow _ (HC.out _ _ (hv'.up (by repeat' (first | (with_reducible exact Up.refl _) | (with_reducible assumption) | (with_reducible refine Up.alloc ?_ _) | (with_reducible refine Up.drew ?_) | (with_reducible refine Up.grow ?_ _) | (with_reducible refine Up.setCell ?_ (by (try simp); (try omega)) _)))))) | (go_at_call 118; with_reducible exact Ret.same _ (s_In _ _ _ _)) | (go_at_call 123; with_reducible exact Ret.same _ (i_In _ _ _ _)) | (go_at_call 165; with_reducible exact Ret.same _ (s_Rate _ _)) | (go_at_call 169; with_reducible exact Ret.same _ (i_Rate _ _)) | (go_at_call 180; with_reducible exact Ret.same _ (i_Years _ _)) | (go_at_call 166; with_reducible exact Ret.same _ (s_Amount6 _ _)) | (go_at_call 120; with_reducible exact Ret.same _ (s_Sum7 _ _)))))); refine wpQuiet_nil ?_; intro w' hw'; obtain ⟨x, rfl⟩ := hw'))
    go_ret2
    exact ⟨rfl, (by repeat' (first | (with_reducible exact Up.refl _) | (with_reducible assumption) | (with_reducible refine Up.alloc ?_ _) | (with_reducible refine Up.drew ?_) | (with_reducible refine Up.grow ?_ _) | (with_reducible refine Up.setCell ?_ (by (try simp); (try omega)) _)))⟩
  obtain ⟨hT, h0, h1, hm1, hk1, hk2, k, n, rfl, rfl, hkn, hn, hl, hd⟩ := code7_ok hz
  have HC := Lib.hid (i_ChkPK hz)
  rw [hz, RetQ_ok]
  unfold lpV
  rw [ix_k, Int.toNat_natCast]
  have b1 := inR_true.1 hm1
  have hkn2 : kind = 0 ∨ 1 ≤ n := by omega
  have b2 := hT.top_bd h0 kind k n
  have b4 := hT.base_bd h0 kind k n hkn2
  have b5 := lev_q hT h0 hd (kind := kind) (m := n) (x := m) (by omega) (by omega) hkn2
  have HU := Lib.hid (i_Priced m (T.top r kind k n) (T.base r kind k n) (by omega) (by omega) (by omega) (by omega) (by omega) (by omega) (by omega))
  clear hz hkn hm1 hd hkn2
  generalize up m (T.top r kind k n) (T.base r kind k n) = U at *
  generalize T.top r kind k n = N at *
  generalize T.base r kind k n = B at *
  generalize T.D r k = D at *
  go_enter Try.func194, Try.ntmps194
  go_wp2_with (first | (go_at_call 190; (with_reducible refine (HC.out _ _ (hv'.up (by repeat' (first | (with_reducible exact Up.refl _) | (with_reducible assumption) | (with_reducible refine Up.alloc ?_ _) | (with_reducible refine Up.drew ?_) | (with_reducible refine Up.grow ?_ _) | (with_reducible refine Up.setCell ?_ (by (try simp); (try omega)) _))))).mono ?_); rintro e w' ⟨rfl, hb⟩; first | (obtain ⟨x, rfl⟩ := Grow.on x hb) | (obtain ⟨x, rfl⟩ := Grow.mk' hb)) | (go_at_call 157; (with_reducible refine (HU.out _).mono ?_); rintro e w' ⟨rfl, hb⟩; first | (obtain ⟨x, rfl⟩ := Grow.on x hb) | (obtain ⟨x, rfl⟩ := Grow.mk' hb)) | (go_at_call 118; (with_reducible refine (s_In _ _ _ _).mono ?_); rintro e w' ⟨rfl, rfl⟩) | (go_at_call 123; (with_reducible refine (i_In _ _ _ _).mono ?_); rintro e w' ⟨rfl, rfl⟩) | (go_at_call 165; (with_reducible refine (s_Rate _ _).mono ?_); rintro e w' ⟨rfl, rfl⟩) | (go_at_call 169; (with_reducible refine (i_Rate _ _).mono ?_); rintro e w' ⟨rfl, rfl⟩) | (go_at_call 180; (with_reducible refine (i_Years _ _).mono ?_); rintro e w' ⟨rfl, rfl⟩) | (go_at_call 166; (with_reducible refine (s_Amount6 _ _).mono ?_); rintro e w' ⟨rfl, rfl⟩) | (go_at_call 120; (with_reducible refine (s_Sum7 _ _).mono ?_); rintro e w' ⟨rfl, rfl⟩) | ((first | with_reducible refine wp_region_in x (by kernel_rfl) (by kernel_rfl) ?_ | with_reducible refine wp_region_here (by kernel_rfl) (by kernel_rfl) ?_); (repeat (go_big_quiet_step ((first | (go_at_call 190; with_reducible exact Ret.grow _ (HC.out _ _ (hv'.up (by repeat' (first | (with_reducible exact Up.refl _) | (with_reducible assumption) | (with_reducible refine Up.alloc ?_ _) | (with_reducible refine Up.drew ?_) | (with_reducible refine Up.grow ?_ _) | (with_reducible refine Up.setCell ?_ (by (try simp); (try omega)) _)))))) | (go_at_call 157; with_reducible exact Ret.grow _ (HU.out _)) | (go_at_call 118; with_reducible exact Ret.same _ (s_In _ _ _ _)) | (go_at_call 123; with_reducible exact Ret.same _ (i_In _ _ _ _)) | (go_at_call 165; with_reducible exact Ret.same _ (s_Rate _ _)) | (go_at_call 169; with_reducible exact Ret.same _ (i_Rate _ _)) | (go_at_call 180; with_reducible exact Ret.same _ (i_Years _ _)) | (go_at_call 166; with_reducible exact Ret.same _ (s_Amount6 _ _)) | (go_at_call 120; with_reducible exact Ret.same _ (s_Sum7 _ _)))))); refine wpQuiet_nil ?_; intro w' hw'; obtain ⟨x, rfl⟩ := hw'))
  go_ret2
  exact ⟨rfl, (by repeat' (first | (with_reducible exact Up.refl _) | (with_reducible assumption) | (with_reducible refine Up.alloc ?_ _) | (with_reducible refine Up.drew ?_) | (with_reducible refine Up.grow ?_ _) | (with_reducible refine Up.setCell ?_ (by (try simp); (try omega)) _)))⟩



end Go.Proofs.Ytfelomijaimloaa
