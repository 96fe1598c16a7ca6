/- Contract of the program's checkAnnuity. Condition: the slice reads as the table's numbers. -/
import Derived.Test.YtdeoampkbbbleaaSCode
import Derived.Test.YtdeoampkbbbleaaICols
namespace Go.Proofs.Ytdeoampkbbbleaa
open Go.RowKit Pu

/-- A row of columns as a value: zeros where the code is not none. -/
def colV (T : Tab) (r : Int) (k : Nat) : Value := .agg #[.int .i64 (T.D r k), .int .i64 (T.N r k), .int .i64 (T.C r k), .int .i64 (T.M r k)]
def col0 : Value := .agg #[.int .i64 0, .int .i64 0, .int .i64 0, .int .i64 0]
/-- What checkAnnuity returns: two columns and the code; where the code is none, the columns are those of the age and of n years later. -/
def RetChk (w : World) (T : Tab) (r age n code : Int) : Ending → World → Prop :=
  Ret w (.tuple #[if code = 0 then colV T r (age - T.first).toNat else col0, if code = 0 then colV T r (age + n - T.first).toNat else col0, .int .i64 code])
theorem RetChk_bad {w : World} {T : Tab} {r age n code : Int} (h : ¬ code = 0) : RetChk w T r age n code = Ret w (.tuple #[col0, col0, .int .i64 code]) := by unfold RetChk; rw [if_neg h, if_neg h]
theorem RetChk_ok {w : World} {T : Tab} {r age n : Int} : RetChk w T r age n 0 = Ret w (.tuple #[colV T r (age - T.first).toNat, colV T r (age + n - T.first).toNat, .int .i64 0]) := rfl

set_option maxRecDepth 100000 in
theorem i_ChkBad1 (T : Tab) (r age m n : Int) (v : Value) (w : World) (hv : TabAt w T v) (hT : ¬ T.Ok) :
    Calls Try.prog 225 #[v, .int .i64 r, .int .i64 age, .int .i64 m, .int .i64 n] w (Ret w (.tuple #[col0, col0, .int .i64 1])) := by
  have hv' := hv
  obtain ⟨A, c, rfl, hc, hm, _, hI⟩ := hv
  have hb := (Tab.okB_false T).2 hT
  go_enter Try.func225, Try.ntmps225
  go_wp2_with (first | (go_at_call 74; (with_reducible refine (i_Valid T false hb _ _ (hv'.up (by repeat' (first | (with_reducible exact Up.refl _) | (with_reducible assumption) | (with_reducible refine Up.alloc ?_ _) | (with_reducible refine Up.drew ?_) | (with_reducible refine Up.grow ?_ _) | (with_reducible refine Up.setCell ?_ (by (try simp); (try omega)) _))))).mono ?_); rintro e w' ⟨rfl, hb⟩; first | (obtain ⟨x, rfl⟩ := Grow.on x hb) | (obtain ⟨x, rfl⟩ := Grow.mk' hb)) | (go_at_call 142; (with_reducible refine (s_In _ _ _ _).mono ?_); rintro e w' ⟨rfl, rfl⟩) | (go_at_call 186; (with_reducible refine (i_In _ _ _ _).mono ?_); rintro e w' ⟨rfl, rfl⟩) | (go_at_call 222; (with_reducible refine (s_Rate _ _).mono ?_); rintro e w' ⟨rfl, rfl⟩) | (go_at_call 165; (with_reducible refine (i_Rate _ _).mono ?_); rintro e w' ⟨rfl, rfl⟩) | (go_at_call 262; (with_reducible refine (i_Years _ _).mono ?_); rintro e w' ⟨rfl, rfl⟩) | (go_at_call 227; (with_reducible refine (s_Amount6 _ _).mono ?_); rintro e w' ⟨rfl, rfl⟩) | (go_at_call 236; (with_reducible refine (s_Sum7 _ _).mono ?_); rintro e w' ⟨rfl, rfl⟩) | ((first | with_reducible refine wp_region_in x (by kernel_rfl) (by kernel_rfl) ?_ | with_reducible refine wp_region_here (by kernel_rfl) (by kernel_rfl) ?_); (repeat (go_big_quiet_step ((first | (go_at_call 74; with_reducible exact Ret.grow _ (i_Valid T false hb _ _ (hv'.up (by repeat' (first | (with_reducible exact Up.refl _) | (with_reducible assumption) | (with_reducible refine Up.alloc ?_ _) | (with_reducible refine Up.drew ?_) | (with_reducible refine Up.grow ?_ _) | (with_reducible refine Up.setCell ?_ (by (try simp); (try omega)) _)))))) | (go_at_call 142; with_reducible exact Ret.same _ (s_In _ _ _ _)) | (go_at_call 186; with_reducible exact Ret.same _ (i_In _ _ _ _)) | (go_at_call 222; with_reducible exact Ret.same _ (s_Rate _ _)) | (go_at_call 165; with_reducible exact Ret.same _ (i_Rate _ _)) | (go_at_call 262; with_reducible exact Ret.same _ (i_Years _ _)) | (go_at_call 227; with_reducible exact Ret.same _ (s_Amount6 _ _)) | (go_at_call 236; with_reducible exact Ret.same _ (s_Sum7 _ _)))))); refine wpQuiet_nil ?_; intro w' hw'; obtain ⟨x, rfl⟩ := hw'))
  refine bodyPost_ret (v := .tuple #[col0, col0, .int .i64 1]) (by simp [results, Try.results225, go_sem, col0]) rfl ?_
  exact ⟨rfl, (by repeat' (first | (with_reducible exact Up.refl _) | (with_reducible assumption) | (with_reducible refine Up.alloc ?_ _) | (with_reducible refine Up.drew ?_) | (with_reducible refine Up.grow ?_ _) | (with_reducible refine Up.setCell ?_ (by (try simp); (try omega)) _)))⟩
set_option maxRecDepth 100000 in
theorem i_ChkBad2A (T : Tab) (r age m n : Int) (v : Value) (w : World) (hv : TabAt w T v) (hb : T.okB = true) (hr : inR r 0 200 = false) :
    Calls Try.prog 225 #[v, .int .i64 r, .int .i64 age, .int .i64 m, .int .i64 n] w (Ret w (.tuple #[col0, col0, .int .i64 2])) := by
  have hv' := hv
  obtain ⟨A, c, rfl, hc, hm, _, hI⟩ := hv
  go_enter Try.func225, Try.ntmps225
  go_wp2_with (first | (go_at_call 74; (with_reducible refine (i_Valid T true hb _ _ (hv'.up (by repeat' (first | (with_reducible exact Up.refl _) | (with_reducible assumption) | (with_reducible refine Up.alloc ?_ _) | (with_reducible refine Up.drew ?_) | (with_reducible refine Up.grow ?_ _) | (with_reducible refine Up.setCell ?_ (by (try simp); (try omega)) _))))).mono ?_); rintro e w' ⟨rfl, hb⟩; first | (obtain ⟨x, rfl⟩ := Grow.on x hb) | (obtain ⟨x, rfl⟩ := Grow.mk' hb)) | (go_at_call 142; (with_reducible refine (s_In _ _ _ _).mono ?_); rintro e w' ⟨rfl, rfl⟩) | (go_at_call 186; (with_reducible refine (i_In _ _ _ _).mono ?_); rintro e w' ⟨rfl, rfl⟩) | (go_at_call 222; (with_reducible refine (s_Rate _ _).mono ?_); rintro e w' ⟨rfl, rfl⟩) | (go_at_call 165; (with_reducible refine (i_Rate _ _).mono ?_); rintro e w' ⟨rfl, rfl⟩) | (go_at_call 262; (with_reducible refine (i_Years _ _).mono ?_); rintro e w' ⟨rfl, rfl⟩) | (go_at_call 227; (with_reducible refine (s_Amount6 _ _).mono ?_); rintro e w' ⟨rfl, rfl⟩) | (go_at_call 236; (with_reducible refine (s_Sum7 _ _).mono ?_); rintro e w' ⟨rfl, rfl⟩) | ((first | with_reducible refine wp_region_in x (by kernel_rfl) (by kernel_rfl) ?_ | with_reducible refine wp_region_here (by kernel_rfl) (by kernel_rfl) ?_); (repeat (go_big_quiet_step ((first | (go_at_call 74; with_reducible exact Ret.grow _ (i_Valid T true hb _ _ (hv'.up (by repeat' (first | (with_reducible exact Up.refl _) | (with_reducible assumption) | (with_reducible refine Up.alloc ?_ _) | (with_reducible refine Up.drew ?_) | (with_reducible refine Up.grow ?_ _) | (with_reducible refine Up.setCell ?_ (by (try simp); (try omega)) _)))))) | (go_at_call 142; with_reducible exact Ret.same _ (s_In _ _ _ _)) | (go_at_call 186; with_reducible exact Ret.same _ (i_In _ _ _ _)) | (go_at_call 222; with_reducible exact Ret.same _ (s_Rate _ _)) | (go_at_call 165; with_reducible exact Ret.same _ (i_Rate _ _)) | (go_at_call 262; with_reducible exact Ret.same _ (i_Years _ _)) | (go_at_call 227; with_reducible exact Ret.same _ (s_Amount6 _ _)) | (go_at_call 236; with_reducible exact Ret.same _ (s_Sum7 _ _)))))); refine wpQuiet_nil ?_; intro w' hw'; obtain ⟨x, rfl⟩ := hw'))
  refine bodyPost_ret (v := .tuple #[col0, col0, .int .i64 2]) (by simp [results, Try.results225, go_sem, col0]) rfl ?_
  exact ⟨rfl, (by repeat' (first | (with_reducible exact Up.refl _) | (with_reducible assumption) | (with_reducible refine Up.alloc ?_ _) | (with_reducible refine Up.drew ?_) | (with_reducible refine Up.grow ?_ _) | (with_reducible refine Up.setCell ?_ (by (try simp); (try omega)) _)))⟩
set_option maxRecDepth 100000 in
theorem i_ChkBad2B (T : Tab) (r age m n : Int) (v : Value) (w : World) (hv : TabAt w T v) (hb : T.okB = true) (hr : inR r 0 200 = true) (ha : inR age T.first 150 = false) :
    Calls Try.prog 225 #[v, .int .i64 r, .int .i64 age, .int .i64 m, .int .i64 n] w (Ret w (.tuple #[col0, col0, .int .i64 2])) := by
  have hv' := hv
  obtain ⟨A, c, rfl, hc, hm, _, hI⟩ := hv
  go_enter Try.func225, Try.ntmps225
  go_wp2_with (first | (go_at_call 74; (with_reducible refine (i_Valid T true hb _ _ (hv'.up (by repeat' (first | (with_reducible exact Up.refl _) | (with_reducible assumption) | (with_reducible refine Up.alloc ?_ _) | (with_reducible refine Up.drew ?_) | (with_reducible refine Up.grow ?_ _) | (with_reducible refine Up.setCell ?_ (by (try simp); (try omega)) _))))).mono ?_); rintro e w' ⟨rfl, hb⟩; first | (obtain ⟨x, rfl⟩ := Grow.on x hb) | (obtain ⟨x, rfl⟩ := Grow.mk' hb)) | (go_at_call 142; (with_reducible refine (s_In _ _ _ _).mono ?_); rintro e w' ⟨rfl, rfl⟩) | (go_at_call 186; (with_reducible refine (i_In _ _ _ _).mono ?_); rintro e w' ⟨rfl, rfl⟩) | (go_at_call 222; (with_reducible refine (s_Rate _ _).mono ?_); rintro e w' ⟨rfl, rfl⟩) | (go_at_call 165; (with_reducible refine (i_Rate _ _).mono ?_); rintro e w' ⟨rfl, rfl⟩) | (go_at_call 262; (with_reducible refine (i_Years _ _).mono ?_); rintro e w' ⟨rfl, rfl⟩) | (go_at_call 227; (with_reducible refine (s_Amount6 _ _).mono ?_); rintro e w' ⟨rfl, rfl⟩) | (go_at_call 236; (with_reducible refine (s_Sum7 _ _).mono ?_); rintro e w' ⟨rfl, rfl⟩) | ((first | with_reducible refine wp_region_in x (by kernel_rfl) (by kernel_rfl) ?_ | with_reducible refine wp_region_here (by kernel_rfl) (by kernel_rfl) ?_); (repeat (go_big_quiet_step ((first | (go_at_call 74; with_reducible exact Ret.grow _ (i_Valid T true hb _ _ (hv'.up (by repeat' (first | (with_reducible exact Up.refl _) | (with_reducible assumption) | (with_reducible refine Up.alloc ?_ _) | (with_reducible refine Up.drew ?_) | (with_reducible refine Up.grow ?_ _) | (with_reducible refine Up.setCell ?_ (by (try simp); (try omega)) _)))))) | (go_at_call 142; with_reducible exact Ret.same _ (s_In _ _ _ _)) | (go_at_call 186; with_reducible exact Ret.same _ (i_In _ _ _ _)) | (go_at_call 222; with_reducible exact Ret.same _ (s_Rate _ _)) | (go_at_call 165; with_reducible exact Ret.same _ (i_Rate _ _)) | (go_at_call 262; with_reducible exact Ret.same _ (i_Years _ _)) | (go_at_call 227; with_reducible exact Ret.same _ (s_Amount6 _ _)) | (go_at_call 236; with_reducible exact Ret.same _ (s_Sum7 _ _)))))); refine wpQuiet_nil ?_; intro w' hw'; obtain ⟨x, rfl⟩ := hw'))
  refine bodyPost_ret (v := .tuple #[col0, col0, .int .i64 2]) (by simp [results, Try.results225, go_sem, col0]) rfl ?_
  exact ⟨rfl, (by repeat' (first | (with_reducible exact Up.refl _) | (with_reducible assumption) | (with_reducible refine Up.alloc ?_ _) | (with_reducible refine Up.drew ?_) | (with_reducible refine Up.grow ?_ _) | (with_reducible refine Up.setCell ?_ (by (try simp); (try omega)) _)))⟩
set_option maxRecDepth 100000 in
theorem i_ChkBad2C (T : Tab) (r age m n : Int) (v : Value) (w : World) (hv : TabAt w T v) (hb : T.okB = true) (hr : inR r 0 200 = true) (ha : inR age T.first 150 = true) (hm1 : inR m 1 1000000 = false) :
    Calls Try.prog 225 #[v, .int .i64 r, .int .i64 age, .int .i64 m, .int .i64 n] w (Ret w (.tuple #[col0, col0, .int .i64 2])) := by
  have hv' := hv
  obtain ⟨A, c, rfl, hc, hm, _, hI⟩ := hv
  go_enter Try.func225, Try.ntmps225
  go_wp2_with (first | (go_at_call 74; (with_reducible refine (i_Valid T true hb _ _ (hv'.up (by repeat' (first | (with_reducible exact Up.refl _) | (with_reducible assumption) | (with_reducible refine Up.alloc ?_ _) | (with_reducible refine Up.drew ?_) | (with_reducible refine Up.grow ?_ _) | (with_reducible refine Up.setCell ?_ (by (try simp); (try omega)) _))))).mono ?_); rintro e w' ⟨rfl, hb⟩; first | (obtain ⟨x, rfl⟩ := Grow.on x hb) | (obtain ⟨x, rfl⟩ := Grow.mk' hb)) | (go_at_call 142; (with_reducible refine (s_In _ _ _ _).mono ?_); rintro e w' ⟨rfl, rfl⟩) | (go_at_call 186; (with_reducible refine (i_In _ _ _ _).mono ?_); rintro e w' ⟨rfl, rfl⟩) | (go_at_call 222; (with_reducible refine (s_Rate _ _).mono ?_); rintro e w' ⟨rfl, rfl⟩) | (go_at_call 165; (with_reducible refine (i_Rate _ _).mono ?_); rintro e w' ⟨rfl, rfl⟩) | (go_at_call 262; (with_reducible refine (i_Years _ _).mono ?_); rintro e w' ⟨rfl, rfl⟩) | (go_at_call 227; (with_reducible refine (s_Amount6 _ _).mono ?_); rintro e w' ⟨rfl, rfl⟩) | (go_at_call 236; (with_reducible refine (s_Sum7 _ _).mono ?_); rintro e w' ⟨rfl, rfl⟩) | ((first | with_reducible refine wp_region_in x (by kernel_rfl) (by kernel_rfl) ?_ | with_reducible refine wp_region_here (by kernel_rfl) (by kernel_rfl) ?_); (repeat (go_big_quiet_step ((first | (go_at_call 74; with_reducible exact Ret.grow _ (i_Valid T true hb _ _ (hv'.up (by repeat' (first | (with_reducible exact Up.refl _) | (with_reducible assumption) | (with_reducible refine Up.alloc ?_ _) | (with_reducible refine Up.drew ?_) | (with_reducible refine Up.grow ?_ _) | (with_reducible refine Up.setCell ?_ (by (try simp); (try omega)) _)))))) | (go_at_call 142; with_reducible exact Ret.same _ (s_In _ _ _ _)) | (go_at_call 186; with_reducible exact Ret.same _ (i_In _ _ _ _)) | (go_at_call 222; with_reducible exact Ret.same _ (s_Rate _ _)) | (go_at_call 165; with_reducible exact Ret.same _ (i_Rate _ _)) | (go_at_call 262; with_reducible exact Ret.same _ (i_Years _ _)) | (go_at_call 227; with_reducible exact Ret.same _ (s_Amount6 _ _)) | (go_at_call 236; with_reducible exact Ret.same _ (s_Sum7 _ _)))))); refine wpQuiet_nil ?_; intro w' hw'; obtain ⟨x, rfl⟩ := hw'))
  refine bodyPost_ret (v := .tuple #[col0, col0, .int .i64 2]) (by simp [results, Try.results225, go_sem, col0]) rfl ?_
  exact ⟨rfl, (by repeat' (first | (with_reducible exact Up.refl _) | (with_reducible assumption) | (with_reducible refine Up.alloc ?_ _) | (with_reducible refine Up.drew ?_) | (with_reducible refine Up.grow ?_ _) | (with_reducible refine Up.setCell ?_ (by (try simp); (try omega)) _)))⟩
set_option maxRecDepth 100000 in
theorem i_ChkBad2D (T : Tab) (r age m n : Int) (v : Value) (w : World) (hv : TabAt w T v) (hb : T.okB = true) (hr : inR r 0 200 = true) (ha : inR age T.first 150 = true) (hm1 : inR m 1 1000000 = true) (hn : inR n 0 120 = false) :
    Calls Try.prog 225 #[v, .int .i64 r, .int .i64 age, .int .i64 m, .int .i64 n] w (Ret w (.tuple #[col0, col0, .int .i64 2])) := by
  have hv' := hv
  obtain ⟨A, c, rfl, hc, hm, _, hI⟩ := hv
  go_enter Try.func225, Try.ntmps225
  go_wp2_with (first | (go_at_call 74; (with_reducible refine (i_Valid T true hb _ _ (hv'.up (by repeat' (first | (with_reducible exact Up.refl _) | (with_reducible assumption) | (with_reducible refine Up.alloc ?_ _) | (with_reducible refine Up.drew ?_) | (with_reducible refine Up.grow ?_ _) | (with_reducible refine Up.setCell ?_ (by (try simp); (try omega)) _))))).mono ?_); rintro e w' ⟨rfl, hb⟩; first | (obtain ⟨x, rfl⟩ := Grow.on x hb) | (obtain ⟨x, rfl⟩ := Grow.mk' hb)) | (go_at_call 142; (with_reducible refine (s_In _ _ _ _).mono ?_); rintro e w' ⟨rfl, rfl⟩) | (go_at_call 186; (with_reducible refine (i_In _ _ _ _).mono ?_); rintro e w' ⟨rfl, rfl⟩) | (go_at_call 222; (with_reducible refine (s_Rate _ _).mono ?_); rintro e w' ⟨rfl, rfl⟩) | (go_at_call 165; (with_reducible refine (i_Rate _ _).mono ?_); rintro e w' ⟨rfl, rfl⟩) | (go_at_call 262; (with_reducible refine (i_Years _ _).mono ?_); rintro e w' ⟨rfl, rfl⟩) | (go_at_call 227; (with_reducible refine (s_Amount6 _ _).mono ?_); rintro e w' ⟨rfl, rfl⟩) | (go_at_call 236; (with_reducible refine (s_Sum7 _ _).mono ?_); rintro e w' ⟨rfl, rfl⟩) | ((first | with_reducible refine wp_region_in x (by kernel_rfl) (by kernel_rfl) ?_ | with_reducible refine wp_region_here (by kernel_rfl) (by kernel_rfl) ?_); (repeat (go_big_quiet_step ((first | (go_at_call 74; with_reducible exact Ret.grow _ (i_Valid T true hb _ _ (hv'.up (by repeat' (first | (with_reducible exact Up.refl _) | (with_reducible assumption) | (with_reducible refine Up.alloc ?_ _) | (with_reducible refine Up.drew ?_) | (with_reducible refine Up.grow ?_ _) | (with_reducible refine Up.setCell ?_ (by (try simp); (try omega)) _)))))) | (go_at_call 142; with_reducible exact Ret.same _ (s_In _ _ _ _)) | (go_at_call 186; with_reducible exact Ret.same _ (i_In _ _ _ _)) | (go_at_call 222; with_reducible exact Ret.same _ (s_Rate _ _)) | (go_at_call 165; with_reducible exact Ret.same _ (i_Rate _ _)) | (go_at_call 262; with_reducible exact Ret.same _ (i_Years _ _)) | (go_at_call 227; with_reducible exact Ret.same _ (s_Amount6 _ _)) | (go_at_call 236; with_reducible exact Ret.same _ (s_Sum7 _ _)))))); refine wpQuiet_nil ?_; intro w' hw'; obtain ⟨x, rfl⟩ := hw'))
  refine bodyPost_ret (v := .tuple #[col0, col0, .int .i64 2]) (by simp [results, Try.results225, go_sem, col0]) rfl ?_
  exact ⟨rfl, (by repeat' (first | (with_reducible exact Up.refl _) | (with_reducible assumption) | (with_reducible refine Up.alloc ?_ _) | (with_reducible refine Up.drew ?_) | (with_reducible refine Up.grow ?_ _) | (with_reducible refine Up.setCell ?_ (by (try simp); (try omega)) _)))⟩
set_option maxRecDepth 100000 in
theorem i_ChkBad2E (T : Tab) (r age m n : Int) (v : Value) (w : World) (hv : TabAt w T v) (hb : T.okB = true) (hr : inR r 0 200 = true) (ha : inR age T.first 150 = true) (hm1 : inR m 1 1000000 = true) (hn : inR n 0 120 = true) (h1 : 150 < age + n) (h2 : age + n ≤ 1000) :
    Calls Try.prog 225 #[v, .int .i64 r, .int .i64 age, .int .i64 m, .int .i64 n] w (Ret w (.tuple #[col0, col0, .int .i64 2])) := by
  have hv' := hv
  obtain ⟨A, c, rfl, hc, hm, _, hI⟩ := hv
  go_enter Try.func225, Try.ntmps225
  go_wp2_with (first | (go_at_call 74; (with_reducible refine (i_Valid T true hb _ _ (hv'.up (by repeat' (first | (with_reducible exact Up.refl _) | (with_reducible assumption) | (with_reducible refine Up.alloc ?_ _) | (with_reducible refine Up.drew ?_) | (with_reducible refine Up.grow ?_ _) | (with_reducible refine Up.setCell ?_ (by (try simp); (try omega)) _))))).mono ?_); rintro e w' ⟨rfl, hb⟩; first | (obtain ⟨x, rfl⟩ := Grow.on x hb) | (obtain ⟨x, rfl⟩ := Grow.mk' hb)) | (go_at_call 142; (with_reducible refine (s_In _ _ _ _).mono ?_); rintro e w' ⟨rfl, rfl⟩) | (go_at_call 186; (with_reducible refine (i_In _ _ _ _).mono ?_); rintro e w' ⟨rfl, rfl⟩) | (go_at_call 222; (with_reducible refine (s_Rate _ _).mono ?_); rintro e w' ⟨rfl, rfl⟩) | (go_at_call 165; (with_reducible refine (i_Rate _ _).mono ?_); rintro e w' ⟨rfl, rfl⟩) | (go_at_call 262; (with_reducible refine (i_Years _ _).mono ?_); rintro e w' ⟨rfl, rfl⟩) | (go_at_call 227; (with_reducible refine (s_Amount6 _ _).mono ?_); rintro e w' ⟨rfl, rfl⟩) | (go_at_call 236; (with_reducible refine (s_Sum7 _ _).mono ?_); rintro e w' ⟨rfl, rfl⟩) | ((first | with_reducible refine wp_region_in x (by kernel_rfl) (by kernel_rfl) ?_ | with_reducible refine wp_region_here (by kernel_rfl) (by kernel_rfl) ?_); (repeat (go_big_quiet_step ((first | (go_at_call 74; with_reducible exact Ret.grow _ (i_Valid T true hb _ _ (hv'.up (by repeat' (first | (with_reducible exact Up.refl _) | (with_reducible assumption) | (with_reducible refine Up.alloc ?_ _) | (with_reducible refine Up.drew ?_) | (with_reducible refine Up.grow ?_ _) | (with_reducible refine Up.setCell ?_ (by (try simp); (try omega)) _)))))) | (go_at_call 142; with_reducible exact Ret.same _ (s_In _ _ _ _)) | (go_at_call 186; with_reducible exact Ret.same _ (i_In _ _ _ _)) | (go_at_call 222; with_reducible exact Ret.same _ (s_Rate _ _)) | (go_at_call 165; with_reducible exact Ret.same _ (i_Rate _ _)) | (go_at_call 262; with_reducible exact Ret.same _ (i_Years _ _)) | (go_at_call 227; with_reducible exact Ret.same _ (s_Amount6 _ _)) | (go_at_call 236; with_reducible exact Ret.same _ (s_Sum7 _ _)))))); refine wpQuiet_nil ?_; intro w' hw'; obtain ⟨x, rfl⟩ := hw'))
  refine bodyPost_ret (v := .tuple #[col0, col0, .int .i64 2]) (by simp [results, Try.results225, go_sem, col0]) rfl ?_
  exact ⟨rfl, (by repeat' (first | (with_reducible exact Up.refl _) | (with_reducible assumption) | (with_reducible refine Up.alloc ?_ _) | (with_reducible refine Up.drew ?_) | (with_reducible refine Up.grow ?_ _) | (with_reducible refine Up.setCell ?_ (by (try simp); (try omega)) _)))⟩

set_option maxRecDepth 100000 in
set_option maxHeartbeats 4000000 in
theorem i_ChkGoD (T : Tab) (r m : Int) (k n : Nat) (v : Value) (w : World) (hv : TabAt w T v) (hT : T.Ok) (hr : inR r 0 200 = true) (ha : inR (T.first + k) T.first 150 = true) (hm1 : inR m 1 1000000 = true) (hn : inR n 0 120 = true) (hl : T.first + k + n ≤ 150) (hd : T.D r k = 0) :
    Calls Try.prog 225 #[v, .int .i64 r, .int .i64 (T.first + k), .int .i64 m, .int .i64 n] w (Ret w (.tuple #[col0, col0, .int .i64 5])) := by
  have hv' := hv
  obtain ⟨A, c, rfl, hc, hm, _, hI⟩ := hv
  have hb := (Tab.okB_iff T).2 hT
  have hr' := inR_true.1 hr
  have q0 := hT.lo
  have q1 := hT.hi
  obtain ⟨L, hL⟩ : ∃ L : Nat, (151 - T.first).toNat = L := ⟨_, rfl⟩
  have hcols := i_Cols hT hr'.1 hr'.2
  have i1 : IntKind.i64.wrap (T.first + k - T.first) = k := by rw [IntWalk.i64_in _ (by omega)]; omega
  have i2 : IntKind.i64.wrap (T.first + k + n) = T.first + k + n := IntWalk.i64_in _ (by omega)
  have i3 : IntKind.i64.wrap (T.first + k + n - T.first) = (k : Int) + n := by rw [IntWalk.i64_in _ (by omega)]; omega
  have i4 : ((k : Int) + n).toNat = k + n := by omega
  have hkL : (k : Int) < L := by omega
  have hjL : (k : Int) + n < L := by omega
  have h0k : (0 : Int) ≤ k := by omega
  have h0n : (0 : Int) ≤ (k : Int) + n := by omega
  have hkL2 : k < (151 - T.first).toNat := by omega
  have hjL2 : k + n < (151 - T.first).toNat := by omega
  go_enter Try.func225, Try.ntmps225
  go_upto_region 6 with (first | (go_at_call 197; refine (hcols _ _ (hv'.up (by repeat' (first | (with_reducible exact Up.refl _) | (with_reducible assumption) | (with_reducible refine Up.alloc ?_ _) | (with_reducible refine Up.drew ?_) | (with_reducible refine Up.grow ?_ _) | (with_reducible refine Up.setCell ?_ (by (try simp); (try omega)) _))))).mono ?_; rintro e w5 ⟨v5, rfl, hb5, g, cs, rfl, hg, hcs⟩) | (go_at_call 142; refine (s_In _ _ _ _).mono ?_; rintro e w' ⟨rfl, rfl⟩) | (go_at_call 186; refine (i_In _ _ _ _).mono ?_; rintro e w' ⟨rfl, rfl⟩) | (go_at_call 222; refine (s_Rate _ _).mono ?_; rintro e w' ⟨rfl, rfl⟩) | (go_at_call 165; refine (i_Rate _ _).mono ?_; rintro e w' ⟨rfl, rfl⟩) | (go_at_call 262; refine (i_Years _ _).mono ?_; rintro e w' ⟨rfl, rfl⟩) | (go_at_call 227; refine (s_Amount6 _ _).mono ?_; rintro e w' ⟨rfl, rfl⟩) | (go_at_call 236; refine (s_Sum7 _ _).mono ?_; rintro e w' ⟨rfl, rfl⟩) | (go_at_call 74; refine (i_Valid T true hb _ _ (hv'.up (by repeat' (first | (with_reducible exact Up.refl _) | (with_reducible assumption) | (with_reducible refine Up.alloc ?_ _) | (with_reducible refine Up.drew ?_) | (with_reducible refine Up.grow ?_ _) | (with_reducible refine Up.setCell ?_ (by (try simp); (try omega)) _))))).mono ?_; rintro e w' ⟨rfl, hb⟩; first | (obtain ⟨x, rfl⟩ := Grow.on x hb) | (obtain ⟨x, rfl⟩ := Grow.mk' hb)))
  have hT5 : Blk w5 w.heap.size 31 #[.int .i64 T.first, .slice A T.n c] := ((((Blk.new _ _ _).alloc _).alloc _).up hb).up hb5
  have h15 : Blk w5 (w.heap.size + 1) 80 #[.int .i64 0, .int .i64 0, .int .i64 0, .int .i64 0] := by
    have h := (((Blk.new (w.alloc (.cells #[.int .i64 T.first, .slice A T.n c] 31)) 80 #[.int .i64 0, .int .i64 0, .int .i64 0, .int .i64 0]).alloc (.cells #[.int .i64 0, .int .i64 0, .int .i64 0, .int .i64 0] 80)).up hb).up hb5
    simpa only [World.size_alloc] using h
  have h16 : Blk w5 (w.heap.size + 1 + 1) 80 #[.int .i64 0, .int .i64 0, .int .i64 0, .int .i64 0] := by
    have h := ((Blk.new ((w.alloc (.cells #[.int .i64 T.first, .slice A T.n c] 31)).alloc (.cells #[.int .i64 0, .int .i64 0, .int .i64 0, .int .i64 0] 80)) 80 #[.int .i64 0, .int .i64 0, .int .i64 0, .int .i64 0]).up hb).up hb5
    simpa only [World.size_alloc] using h
  have hup : Up w w5 := (((Up.alloc (Up.alloc (Up.alloc (Up.refl w) _) _) _).trans hb).trans hb5)
  obtain ⟨a0, a1, a2, a3⟩ := row_at hg (hcs k hkL2)
  obtain ⟨b0, b1, b2, b3⟩ := row_at hg (hcs (k + n) hjL2)
  have t0 := hT5.cell 0
  have iT := hT5.inw; have ig := hg.inw; have i15 := h15.inw; have i16 := h16.inw
  clear hcs hg hb hb5 hcols hI hc hm ha hr hm1 hn hT5
  have s1 : w.heap.size ≤ w.heap.size + 1 := by omega
  have s2 : w.heap.size ≤ w.heap.size + 1 + 1 := by omega
  have d12 : ¬ w.heap.size + 1 = w.heap.size + 1 + 1 := by omega
  have e1 : ¬ g = w5.heap.size := by unfold InW at *; omega
  have e2 : ¬ g = w5.heap.size + 1 := by unfold InW at *; omega
  have e5 : ¬ w.heap.size = w5.heap.size := by unfold InW at *; omega
  have e6 : ¬ w.heap.size = w5.heap.size + 1 := by unfold InW at *; omega
  have e7 : ¬ w.heap.size + 1 = w5.heap.size := by unfold InW at *; omega
  have e8 : ¬ w.heap.size + 1 = w5.heap.size + 1 := by unfold InW at *; omega
  have e9 : ¬ w.heap.size + 1 + 1 = w5.heap.size := by unfold InW at *; omega
  have e10 : ¬ w.heap.size + 1 + 1 = w5.heap.size + 1 := by unfold InW at *; omega
  generalize w.heap.size + 1 + 1 = B2 at *
  generalize w.heap.size + 1 = B1 at *
  have k10 := h15.cell 0; have k11 := h15.cell 1; have k12 := h15.cell 2; have k13 := h15.cell 3
  have k20 := h16.cell 0; have k21 := h16.cell 1; have k22 := h16.cell 2; have k23 := h16.cell 3
  have z1 := h15.frozen; have z2 := h16.frozen
  have d21 : ¬ B2 = B1 := fun h => d12 h.symm
  clear h15 h16
  go_region_held3 (fun w' => w'.cell? ⟨w.heap.size, 0, none⟩ = some (.int .i64 T.first) ∧ w'.cell? ⟨g, k * 4, none⟩ = some (.int .i64 (T.D r k)) ∧ w'.cell? ⟨g, k * 4 + 1, none⟩ = some (.int .i64 (T.N r k)) ∧ w'.cell? ⟨g, k * 4 + 2, none⟩ = some (.int .i64 (T.C r k)) ∧ w'.cell? ⟨g, k * 4 + 3, none⟩ = some (.int .i64 (T.M r k)) ∧
      w'.cell? ⟨g, (k + n) * 4, none⟩ = some (.int .i64 (T.D r (k + n))) ∧ w'.cell? ⟨g, (k + n) * 4 + 1, none⟩ = some (.int .i64 (T.N r (k + n))) ∧ w'.cell? ⟨g, (k + n) * 4 + 2, none⟩ = some (.int .i64 (T.C r (k + n))) ∧ w'.cell? ⟨g, (k + n) * 4 + 3, none⟩ = some (.int .i64 (T.M r (k + n)))) ((repeat' apply And.intro) <;> go_simp) (fail)
  all_goals
    go_wp2
    
  all_goals
    go_wp2
    refine bodyPost_ret (v := .tuple #[col0, col0, .int .i64 5]) (by simp [results, Try.results225, go_sem, col0, k10, k11, k12, k13, k20, k21, k22, k23, i15, i16]) rfl ?_
    exact ⟨rfl, (by repeat' (first | (with_reducible exact Up.refl _) | (with_reducible assumption) | (with_reducible refine Up.alloc ?_ _) | (with_reducible refine Up.drew ?_) | (with_reducible refine Up.grow ?_ _) | (with_reducible refine Up.setCell ?_ (by (try simp); (try omega)) _)))⟩
set_option maxRecDepth 100000 in
set_option maxHeartbeats 4000000 in
theorem i_ChkGoK (T : Tab) (r m : Int) (k n : Nat) (v : Value) (w : World) (hv : TabAt w T v) (hT : T.Ok) (hr : inR r 0 200 = true) (ha : inR (T.first + k) T.first 150 = true) (hm1 : inR m 1 1000000 = true) (hn : inR n 0 120 = true) (hl : T.first + k + n ≤ 150) (hd : (T.D r k == 0) = false) :
    Calls Try.prog 225 #[v, .int .i64 r, .int .i64 (T.first + k), .int .i64 m, .int .i64 n] w (Ret w (.tuple #[(colV T r k), (colV T r (k + n)), .int .i64 0])) := by
  have hv' := hv
  obtain ⟨A, c, rfl, hc, hm, _, hI⟩ := hv
  have hb := (Tab.okB_iff T).2 hT
  have hr' := inR_true.1 hr
  have q0 := hT.lo
  have q1 := hT.hi
  obtain ⟨L, hL⟩ : ∃ L : Nat, (151 - T.first).toNat = L := ⟨_, rfl⟩
  have hcols := i_Cols hT hr'.1 hr'.2
  have i1 : IntKind.i64.wrap (T.first + k - T.first) = k := by rw [IntWalk.i64_in _ (by omega)]; omega
  have i2 : IntKind.i64.wrap (T.first + k + n) = T.first + k + n := IntWalk.i64_in _ (by omega)
  have i3 : IntKind.i64.wrap (T.first + k + n - T.first) = (k : Int) + n := by rw [IntWalk.i64_in _ (by omega)]; omega
  have i4 : ((k : Int) + n).toNat = k + n := by omega
  have hkL : (k : Int) < L := by omega
  have hjL : (k : Int) + n < L := by omega
  have h0k : (0 : Int) ≤ k := by omega
  have h0n : (0 : Int) ≤ (k : Int) + n := by omega
  have hkL2 : k < (151 - T.first).toNat := by omega
  have hjL2 : k + n < (151 - T.first).toNat := by omega
  go_enter Try.func225, Try.ntmps225
  go_upto_region 6 with (first | (go_at_call 197; refine (hcols _ _ (hv'.up (by repeat' (first | (with_reducible exact Up.refl _) | (with_reducible assumption) | (with_reducible refine Up.alloc ?_ _) | (with_reducible refine Up.drew ?_) | (with_reducible refine Up.grow ?_ _) | (with_reducible refine Up.setCell ?_ (by (try simp); (try omega)) _))))).mono ?_; rintro e w5 ⟨v5, rfl, hb5, g, cs, rfl, hg, hcs⟩) | (go_at_call 142; refine (s_In _ _ _ _).mono ?_; rintro e w' ⟨rfl, rfl⟩) | (go_at_call 186; refine (i_In _ _ _ _).mono ?_; rintro e w' ⟨rfl, rfl⟩) | (go_at_call 222; refine (s_Rate _ _).mono ?_; rintro e w' ⟨rfl, rfl⟩) | (go_at_call 165; refine (i_Rate _ _).mono ?_; rintro e w' ⟨rfl, rfl⟩) | (go_at_call 262; refine (i_Years _ _).mono ?_; rintro e w' ⟨rfl, rfl⟩) | (go_at_call 227; refine (s_Amount6 _ _).mono ?_; rintro e w' ⟨rfl, rfl⟩) | (go_at_call 236; refine (s_Sum7 _ _).mono ?_; rintro e w' ⟨rfl, rfl⟩) | (go_at_call 74; refine (i_Valid T true hb _ _ (hv'.up (by repeat' (first | (with_reducible exact Up.refl _) | (with_reducible assumption) | (with_reducible refine Up.alloc ?_ _) | (with_reducible refine Up.drew ?_) | (with_reducible refine Up.grow ?_ _) | (with_reducible refine Up.setCell ?_ (by (try simp); (try omega)) _))))).mono ?_; rintro e w' ⟨rfl, hb⟩; first | (obtain ⟨x, rfl⟩ := Grow.on x hb) | (obtain ⟨x, rfl⟩ := Grow.mk' hb)))
  have hT5 : Blk w5 w.heap.size 31 #[.int .i64 T.first, .slice A T.n c] := ((((Blk.new _ _ _).alloc _).alloc _).up hb).up hb5
  have h15 : Blk w5 (w.heap.size + 1) 80 #[.int .i64 0, .int .i64 0, .int .i64 0, .int .i64 0] := by
    have h := (((Blk.new (w.alloc (.cells #[.int .i64 T.first, .slice A T.n c] 31)) 80 #[.int .i64 0, .int .i64 0, .int .i64 0, .int .i64 0]).alloc (.cells #[.int .i64 0, .int .i64 0, .int .i64 0, .int .i64 0] 80)).up hb).up hb5
    simpa only [World.size_alloc] using h
  have h16 : Blk w5 (w.heap.size + 1 + 1) 80 #[.int .i64 0, .int .i64 0, .int .i64 0, .int .i64 0] := by
    have h := ((Blk.new ((w.alloc (.cells #[.int .i64 T.first, .slice A T.n c] 31)).alloc (.cells #[.int .i64 0, .int .i64 0, .int .i64 0, .int .i64 0] 80)) 80 #[.int .i64 0, .int .i64 0, .int .i64 0, .int .i64 0]).up hb).up hb5
    simpa only [World.size_alloc] using h
  have hup : Up w w5 := (((Up.alloc (Up.alloc (Up.alloc (Up.refl w) _) _) _).trans hb).trans hb5)
  obtain ⟨a0, a1, a2, a3⟩ := row_at hg (hcs k hkL2)
  obtain ⟨b0, b1, b2, b3⟩ := row_at hg (hcs (k + n) hjL2)
  have t0 := hT5.cell 0
  have iT := hT5.inw; have ig := hg.inw; have i15 := h15.inw; have i16 := h16.inw
  clear hcs hg hb hb5 hcols hI hc hm ha hr hm1 hn hT5
  have s1 : w.heap.size ≤ w.heap.size + 1 := by omega
  have s2 : w.heap.size ≤ w.heap.size + 1 + 1 := by omega
  have d12 : ¬ w.heap.size + 1 = w.heap.size + 1 + 1 := by omega
  have e1 : ¬ g = w5.heap.size := by unfold InW at *; omega
  have e2 : ¬ g = w5.heap.size + 1 := by unfold InW at *; omega
  have e5 : ¬ w.heap.size = w5.heap.size := by unfold InW at *; omega
  have e6 : ¬ w.heap.size = w5.heap.size + 1 := by unfold InW at *; omega
  have e7 : ¬ w.heap.size + 1 = w5.heap.size := by unfold InW at *; omega
  have e8 : ¬ w.heap.size + 1 = w5.heap.size + 1 := by unfold InW at *; omega
  have e9 : ¬ w.heap.size + 1 + 1 = w5.heap.size := by unfold InW at *; omega
  have e10 : ¬ w.heap.size + 1 + 1 = w5.heap.size + 1 := by unfold InW at *; omega
  generalize w.heap.size + 1 + 1 = B2 at *
  generalize w.heap.size + 1 = B1 at *
  have k10 := h15.cell 0; have k11 := h15.cell 1; have k12 := h15.cell 2; have k13 := h15.cell 3
  have k20 := h16.cell 0; have k21 := h16.cell 1; have k22 := h16.cell 2; have k23 := h16.cell 3
  have z1 := h15.frozen; have z2 := h16.frozen
  have d21 : ¬ B2 = B1 := fun h => d12 h.symm
  clear h15 h16
  go_region_held3 (fun w' => w'.cell? ⟨w.heap.size, 0, none⟩ = some (.int .i64 T.first) ∧ w'.cell? ⟨g, k * 4, none⟩ = some (.int .i64 (T.D r k)) ∧ w'.cell? ⟨g, k * 4 + 1, none⟩ = some (.int .i64 (T.N r k)) ∧ w'.cell? ⟨g, k * 4 + 2, none⟩ = some (.int .i64 (T.C r k)) ∧ w'.cell? ⟨g, k * 4 + 3, none⟩ = some (.int .i64 (T.M r k)) ∧
      w'.cell? ⟨g, (k + n) * 4, none⟩ = some (.int .i64 (T.D r (k + n))) ∧ w'.cell? ⟨g, (k + n) * 4 + 1, none⟩ = some (.int .i64 (T.N r (k + n))) ∧ w'.cell? ⟨g, (k + n) * 4 + 2, none⟩ = some (.int .i64 (T.C r (k + n))) ∧ w'.cell? ⟨g, (k + n) * 4 + 3, none⟩ = some (.int .i64 (T.M r (k + n)))) ((repeat' apply And.intro) <;> go_simp) (fail)
  all_goals
    go_wp2
    go_region
  all_goals
    go_wp2
    refine bodyPost_ret (v := .tuple #[(colV T r k), (colV T r (k + n)), .int .i64 0]) (by simp [results, Try.results225, go_sem, colV, k10, k11, k12, k13, k20, k21, k22, k23, i15, i16]) rfl ?_
    exact ⟨rfl, (by repeat' (first | (with_reducible exact Up.refl _) | (with_reducible assumption) | (with_reducible refine Up.alloc ?_ _) | (with_reducible refine Up.drew ?_) | (with_reducible refine Up.grow ?_ _) | (with_reducible refine Up.setCell ?_ (by (try simp); (try omega)) _)))⟩

theorem i_ChkA (T : Tab) (r age m n : Int) (v : Value) (w : World) (hv : TabAt w T v) :
    Calls Try.prog 225 #[v, .int .i64 r, .int .i64 age, .int .i64 m, .int .i64 n] w (RetChk w T r age n (code6 T r age (inR m 1 1000000) n)) := by
  by_cases hT : T.Ok
  case neg =>
    have e : code6 T r age (inR m 1 1000000) n = 1 := by unfold code6; rw [code5_bad hT]; rfl
    rw [e, RetChk_bad (by omega)]
    exact i_ChkBad1 T r age m n v w hv hT
  have hb := (Tab.okB_iff T).2 hT
  have q0 := hT.lo
  by_cases hr : inR r 0 200 = true
  case neg =>
    have e : code6 T r age (inR m 1 1000000) n = 2 := by unfold code6; rw [code5_range hT (fun h => hr (inR_true.2 ⟨h.1, h.2.1⟩))]; rfl
    rw [e, RetChk_bad (by omega)]
    exact i_ChkBad2A T r age m n v w hv hb (Bool.eq_false_iff.2 hr)
  have hr' := inR_true.1 hr
  by_cases ha : inR age T.first 150 = true
  case neg =>
    have e : code6 T r age (inR m 1 1000000) n = 2 := by unfold code6; rw [code5_range hT (fun h => ha (inR_true.2 h.2.2))]; rfl
    rw [e, RetChk_bad (by omega)]
    exact i_ChkBad2B T r age m n v w hv hb hr (Bool.eq_false_iff.2 ha)
  have ha' := inR_true.1 ha
  have hz : code5 T r age = 0 := code5_ok hT ⟨hr'.1, hr'.2, ha'.1, ha'.2⟩
  by_cases hm1 : inR m 1 1000000 = true
  case neg =>
    have hm1 := Bool.eq_false_iff.2 hm1
    have e : code6 T r age (inR m 1 1000000) n = 2 := by unfold code6; rw [if_pos hz, hm1, if_neg (by simp)]
    rw [e, RetChk_bad (by omega)]
    exact i_ChkBad2C T r age m n v w hv hb hr ha hm1
  by_cases hn : inR n 0 120 = true
  case neg =>
    have e : code6 T r age (inR m 1 1000000) n = 2 := by unfold code6; rw [if_pos hz, if_neg (fun h => hn (inR_true.2 ⟨h.2.1, h.2.2.1⟩))]
    rw [e, RetChk_bad (by omega)]
    exact i_ChkBad2D T r age m n v w hv hb hr ha hm1 (Bool.eq_false_iff.2 hn)
  have hn' := inR_true.1 hn
  by_cases hl : age + n ≤ 150
  case neg =>
    have e : code6 T r age (inR m 1 1000000) n = 2 := by unfold code6; rw [if_pos hz, if_neg (fun h => hl h.2.2.2)]
    rw [e, RetChk_bad (by omega)]
    exact i_ChkBad2E T r age m n v w hv hb hr ha hm1 hn (by omega) (by omega)
  obtain ⟨k, hk⟩ : ∃ k : Nat, age = T.first + k := ⟨(age - T.first).toNat, by omega⟩
  obtain ⟨j, rfl⟩ := Int.eq_ofNat_of_zero_le hn'.1
  subst hk
  by_cases hd : T.D r k = 0
  · have e : code6 T r (T.first + k) (inR m 1 1000000) j = 5 := by unfold code6; rw [if_pos hz, if_pos ⟨hm1, hn'.1, hn'.2, hl⟩, kk, if_pos hd]
    rw [e, RetChk_bad (by omega)]
    exact i_ChkGoD T r m k j v w hv hT hr ha hm1 hn hl hd
  · have e : code6 T r (T.first + k) (inR m 1 1000000) j = 0 := by unfold code6; rw [if_pos hz, if_pos ⟨hm1, hn'.1, hn'.2, hl⟩, kk, if_neg hd]
    rw [e, RetChk_ok, kk, kmm]
    exact i_ChkGoK T r m k j v w hv hT hr ha hm1 hn hl (by simpa using hd)
end Go.Proofs.Ytdeoampkbbbleaa
