/- Contracts of the program's sickness benefits. Condition: the slices read as the tables' numbers. -/
import Derived.Test.YtegabpilmjicgaaI09
import Derived.Test.YtegabpilmjicgaaS09b
import Derived.Test.YtegabpilmjicgaaChk
import Derived.Test.YtegabpilmjicgaaIMd
namespace Go.Proofs.Ytegabpilmjicgaa
open Go.RowKit Pu

def spp0 : Value := .agg #[.int .i64 0, .int .i64 0, .int .i64 0]
/-- What sickValue returns. -/
def RetSick (w : World) (T Z : Tab) (r age n b code : Int) : Ending → World → Prop :=
  Ret w (.tuple #[.int .i64 (if code = 0 then svV T Z r age n b else 0), if code = 0 then .agg #[.int .i64 0, .int .i64 (T.D r (age - T.first).toNat), .int .i64 (T.N r (age - T.first).toNat - T.N r ((age - T.first).toNat + n.toNat))] else spp0, .int .i64 code])
theorem RetSick_bad {w : World} {T Z : Tab} {r age n b code : Int} (h : ¬ code = 0) : RetSick w T Z r age n b code = Ret w (.tuple #[.int .i64 0, spp0, .int .i64 code]) := by unfold RetSick; rw [if_neg h, if_neg h]

set_option maxRecDepth 100000 in
theorem i_SickBadA (T Z : Tab) (r age n b : Int) (v z : Value) (w : World) (hv : TabAt w T v) (hz : TabAt w Z z) (hT : T.okB = false) :
    Calls Try.prog 117 #[v, z, .int .i64 r, .int .i64 age, .int .i64 n, .int .i64 b] w (Ret w (.tuple #[.int .i64 0, spp0, .int .i64 1])) := by
  have hv' := hv
  have hz' := hz
  have HZ : ∀ hb : true = true ↔ Z.SOk, Hid (∀ z w, TabAt w Z z → Calls Try.prog 147 #[z] w (Ret w (.bool true))) := fun hb => Lib.hid (i_SValid Z true hb)
  first | (replace HZ := HZ hb; clear hb) | clear HZ
  have HT := Lib.hid (i_Valid T false hT)
  clear hT
  obtain ⟨A, c, rfl, hc, hm, _, hI⟩ := hv
  obtain ⟨A2, c2, rfl, hc2, hm2, _, hI2⟩ := hz
  go_enter Try.func117, Try.ntmps117
  first | go_wp2_with (first | (go_at_call 103; (with_reducible refine (HT.out _ _ (hv'.up (by repeat' (first | (with_reducible exact Up.refl _) | (with_reducible assumption) | (with_reducible refine Up.alloc ?_ _) | (with_reducible refine Up.drew ?_) | (with_reducible refine Up.grow ?_ _) | (with_reducible refine Up.setCell ?_ (by (try simp); (try omega)) _))))).mono ?_); rintro e w' ⟨rfl, hb⟩; first | (obtain ⟨x, rfl⟩ := Grow.on x hb) | (obtain ⟨x, rfl⟩ := Grow.mk' hb)) | (go_at_call 147; (with_reducible refine (HZ.out _ _ (hz'.up (by repeat' (first | (with_reducible exact Up.refl _) | (with_reducible assumption) | (with_reducible refine Up.alloc ?_ _) | (with_reducible refine Up.drew ?_) | (with_reducible refine Up.grow ?_ _) | (with_reducible refine Up.setCell ?_ (by (try simp); (try omega)) _))))).mono ?_); rintro e w' ⟨rfl, hb⟩; first | (obtain ⟨x, rfl⟩ := Grow.on x hb) | (obtain ⟨x, rfl⟩ := Grow.mk' hb)) | (go_at_call 92; (with_reducible refine (s_In _ _ _ _).mono ?_); rintro e w' ⟨rfl, rfl⟩) | (go_at_call 96; (with_reducible refine (i_In _ _ _ _).mono ?_); rintro e w' ⟨rfl, rfl⟩) | (go_at_call 142; (with_reducible refine (s_Rate _ _).mono ?_); rintro e w' ⟨rfl, rfl⟩) | (go_at_call 104; (with_reducible refine (i_Rate _ _).mono ?_); rintro e w' ⟨rfl, rfl⟩) | (go_at_call 132; (with_reducible refine (i_Years _ _).mono ?_); rintro e w' ⟨rfl, rfl⟩) | (go_at_call 98; (with_reducible refine (s_Amount6 _ _).mono ?_); rintro e w' ⟨rfl, rfl⟩) | (go_at_call 108; (with_reducible refine (s_Sum7 _ _).mono ?_); rintro e w' ⟨rfl, rfl⟩) | ((first | with_reducible refine wp_region_in x (by kernel_rfl) (by kernel_rfl) ?_ | with_reducible refine wp_region_here (by kernel_rfl) (by kernel_rfl) ?_); (repeat (go_big_quiet_step ((first | (go_at_call 103; with_reducible exact Ret.grow _ (HT.out _ _ (hv'.up (by repeat' (first | (with_reducible exact Up.refl _) | (with_reducible assumption) | (with_reducible refine Up.alloc ?_ _) | (with_reducible refine Up.drew ?_) | (with_reducible refine Up.grow ?_ _) | (with_reducible refine Up.setCell ?_ (by (try simp); (try omega)) _)))))) | (go_at_call 147; with_reducible exact Ret.grow _ (HZ.out _ _ (hz'.up (by repeat' (first | (with_reducible exact Up.refl _) | (with_reducible assumption) | (with_reducible refine Up.alloc ?_ _) | (with_reducible refine Up.drew ?_) | (with_reducible refine Up.grow ?_ _) | (with_reducible refine Up.setCell ?_ (by (try simp); (try omega)) _)))))) | (go_at_call 92; with_reducible exact Ret.same _ (s_In _ _ _ _)) | (go_at_call 96; with_reducible exact Ret.same _ (i_In _ _ _ _)) | (go_at_call 142; with_reducible exact Ret.same _ (s_Rate _ _)) | (go_at_call 104; with_reducible exact Ret.same _ (i_Rate _ _)) | (go_at_call 132; with_reducible exact Ret.same _ (i_Years _ _)) | (go_at_call 98; with_reducible exact Ret.same _ (s_Amount6 _ _)) | (go_at_call 108; with_reducible exact Ret.same _ (s_Sum7 _ _)))))); refine wpQuiet_nil ?_; intro w' hw'; obtain ⟨x, rfl⟩ := hw')) | go_wp2_with (first | (go_at_call 103; (with_reducible refine (HT.out _ _ (hv'.up (by repeat' (first | (with_reducible exact Up.refl _) | (with_reducible assumption) | (with_reducible refine Up.alloc ?_ _) | (with_reducible refine Up.drew ?_) | (with_reducible refine Up.grow ?_ _) | (with_reducible refine Up.setCell ?_ (by (try simp); (try omega)) _))))).mono ?_); rintro e w' ⟨rfl, hb⟩; first | (obtain ⟨x, rfl⟩ := Grow.on x hb) | (obtain ⟨x, rfl⟩ := Grow.mk' hb)) | (go_at_call 92; (with_reducible refine (s_In _ _ _ _).mono ?_); rintro e w' ⟨rfl, rfl⟩) | (go_at_call 96; (with_reducible refine (i_In _ _ _ _).mono ?_); rintro e w' ⟨rfl, rfl⟩) | (go_at_call 142; (with_reducible refine (s_Rate _ _).mono ?_); rintro e w' ⟨rfl, rfl⟩) | (go_at_call 104; (with_reducible refine (i_Rate _ _).mono ?_); rintro e w' ⟨rfl, rfl⟩) | (go_at_call 132; (with_reducible refine (i_Years _ _).mono ?_); rintro e w' ⟨rfl, rfl⟩) | (go_at_call 98; (with_reducible refine (s_Amount6 _ _).mono ?_); rintro e w' ⟨rfl, rfl⟩) | (go_at_call 108; (with_reducible refine (s_Sum7 _ _).mono ?_); rintro e w' ⟨rfl, rfl⟩) | ((first | with_reducible refine wp_region_in x (by kernel_rfl) (by kernel_rfl) ?_ | with_reducible refine wp_region_here (by kernel_rfl) (by kernel_rfl) ?_); (repeat (go_big_quiet_step ((first | (go_at_call 103; with_reducible exact Ret.grow _ (HT.out _ _ (hv'.up (by repeat' (first | (with_reducible exact Up.refl _) | (with_reducible assumption) | (with_reducible refine Up.alloc ?_ _) | (with_reducible refine Up.drew ?_) | (with_reducible refine Up.grow ?_ _) | (with_reducible refine Up.setCell ?_ (by (try simp); (try omega)) _)))))) | (go_at_call 92; with_reducible exact Ret.same _ (s_In _ _ _ _)) | (go_at_call 96; with_reducible exact Ret.same _ (i_In _ _ _ _)) | (go_at_call 142; with_reducible exact Ret.same _ (s_Rate _ _)) | (go_at_call 104; with_reducible exact Ret.same _ (i_Rate _ _)) | (go_at_call 132; with_reducible exact Ret.same _ (i_Years _ _)) | (go_at_call 98; with_reducible exact Ret.same _ (s_Amount6 _ _)) | (go_at_call 108; with_reducible exact Ret.same _ (s_Sum7 _ _)))))); refine wpQuiet_nil ?_; intro w' hw'; obtain ⟨x, rfl⟩ := hw'))
  refine bodyPost_ret (v := .tuple #[.int .i64 0, spp0, .int .i64 1]) (by simp [results, Try.results117, go_sem, spp0]) rfl ?_
  exact ⟨rfl, (by repeat' (first | (with_reducible exact Up.refl _) | (with_reducible assumption) | (with_reducible refine Up.alloc ?_ _) | (with_reducible refine Up.drew ?_) | (with_reducible refine Up.grow ?_ _) | (with_reducible refine Up.setCell ?_ (by (try simp); (try omega)) _)))⟩
set_option maxRecDepth 100000 in
theorem i_SickBadB (T Z : Tab) (r age n b : Int) (v z : Value) (w : World) (hv : TabAt w T v) (hz : TabAt w Z z) (hT : T.okB = true) (hb : false = true ↔ Z.SOk) :
    Calls Try.prog 117 #[v, z, .int .i64 r, .int .i64 age, .int .i64 n, .int .i64 b] w (Ret w (.tuple #[.int .i64 0, spp0, .int .i64 1])) := by
  have hv' := hv
  have hz' := hz
  have HZ : ∀ hb : false = true ↔ Z.SOk, Hid (∀ z w, TabAt w Z z → Calls Try.prog 147 #[z] w (Ret w (.bool false))) := fun hb => Lib.hid (i_SValid Z false hb)
  first | (replace HZ := HZ hb; clear hb) | clear HZ
  have HT := Lib.hid (i_Valid T true hT)
  clear hT
  obtain ⟨A, c, rfl, hc, hm, _, hI⟩ := hv
  obtain ⟨A2, c2, rfl, hc2, hm2, _, hI2⟩ := hz
  go_enter Try.func117, Try.ntmps117
  first | go_wp2_with (first | (go_at_call 103; (with_reducible refine (HT.out _ _ (hv'.up (by repeat' (first | (with_reducible exact Up.refl _) | (with_reducible assumption) | (with_reducible refine Up.alloc ?_ _) | (with_reducible refine Up.drew ?_) | (with_reducible refine Up.grow ?_ _) | (with_reducible refine Up.setCell ?_ (by (try simp); (try omega)) _))))).mono ?_); rintro e w' ⟨rfl, hb⟩; first | (obtain ⟨x, rfl⟩ := Grow.on x hb) | (obtain ⟨x, rfl⟩ := Grow.mk' hb)) | (go_at_call 147; (with_reducible refine (HZ.out _ _ (hz'.up (by repeat' (first | (with_reducible exact Up.refl _) | (with_reducible assumption) | (with_reducible refine Up.alloc ?_ _) | (with_reducible refine Up.drew ?_) | (with_reducible refine Up.grow ?_ _) | (with_reducible refine Up.setCell ?_ (by (try simp); (try omega)) _))))).mono ?_); rintro e w' ⟨rfl, hb⟩; first | (obtain ⟨x, rfl⟩ := Grow.on x hb) | (obtain ⟨x, rfl⟩ := Grow.mk' hb)) | (go_at_call 92; (with_reducible refine (s_In _ _ _ _).mono ?_); rintro e w' ⟨rfl, rfl⟩) | (go_at_call 96; (with_reducible refine (i_In _ _ _ _).mono ?_); rintro e w' ⟨rfl, rfl⟩) | (go_at_call 142; (with_reducible refine (s_Rate _ _).mono ?_); rintro e w' ⟨rfl, rfl⟩) | (go_at_call 104; (with_reducible refine (i_Rate _ _).mono ?_); rintro e w' ⟨rfl, rfl⟩) | (go_at_call 132; (with_reducible refine (i_Years _ _).mono ?_); rintro e w' ⟨rfl, rfl⟩) | (go_at_call 98; (with_reducible refine (s_Amount6 _ _).mono ?_); rintro e w' ⟨rfl, rfl⟩) | (go_at_call 108; (with_reducible refine (s_Sum7 _ _).mono ?_); rintro e w' ⟨rfl, rfl⟩) | ((first | with_reducible refine wp_region_in x (by kernel_rfl) (by kernel_rfl) ?_ | with_reducible refine wp_region_here (by kernel_rfl) (by kernel_rfl) ?_); (repeat (go_big_quiet_step ((first | (go_at_call 103; with_reducible exact Ret.grow _ (HT.out _ _ (hv'.up (by repeat' (first | (with_reducible exact Up.refl _) | (with_reducible assumption) | (with_reducible refine Up.alloc ?_ _) | (with_reducible refine Up.drew ?_) | (with_reducible refine Up.grow ?_ _) | (with_reducible refine Up.setCell ?_ (by (try simp); (try omega)) _)))))) | (go_at_call 147; with_reducible exact Ret.grow _ (HZ.out _ _ (hz'.up (by repeat' (first | (with_reducible exact Up.refl _) | (with_reducible assumption) | (with_reducible refine Up.alloc ?_ _) | (with_reducible refine Up.drew ?_) | (with_reducible refine Up.grow ?_ _) | (with_reducible refine Up.setCell ?_ (by (try simp); (try omega)) _)))))) | (go_at_call 92; with_reducible exact Ret.same _ (s_In _ _ _ _)) | (go_at_call 96; with_reducible exact Ret.same _ (i_In _ _ _ _)) | (go_at_call 142; with_reducible exact Ret.same _ (s_Rate _ _)) | (go_at_call 104; with_reducible exact Ret.same _ (i_Rate _ _)) | (go_at_call 132; with_reducible exact Ret.same _ (i_Years _ _)) | (go_at_call 98; with_reducible exact Ret.same _ (s_Amount6 _ _)) | (go_at_call 108; with_reducible exact Ret.same _ (s_Sum7 _ _)))))); refine wpQuiet_nil ?_; intro w' hw'; obtain ⟨x, rfl⟩ := hw')) | go_wp2_with (first | (go_at_call 103; (with_reducible refine (HT.out _ _ (hv'.up (by repeat' (first | (with_reducible exact Up.refl _) | (with_reducible assumption) | (with_reducible refine Up.alloc ?_ _) | (with_reducible refine Up.drew ?_) | (with_reducible refine Up.grow ?_ _) | (with_reducible refine Up.setCell ?_ (by (try simp); (try omega)) _))))).mono ?_); rintro e w' ⟨rfl, hb⟩; first | (obtain ⟨x, rfl⟩ := Grow.on x hb) | (obtain ⟨x, rfl⟩ := Grow.mk' hb)) | (go_at_call 92; (with_reducible refine (s_In _ _ _ _).mono ?_); rintro e w' ⟨rfl, rfl⟩) | (go_at_call 96; (with_reducible refine (i_In _ _ _ _).mono ?_); rintro e w' ⟨rfl, rfl⟩) | (go_at_call 142; (with_reducible refine (s_Rate _ _).mono ?_); rintro e w' ⟨rfl, rfl⟩) | (go_at_call 104; (with_reducible refine (i_Rate _ _).mono ?_); rintro e w' ⟨rfl, rfl⟩) | (go_at_call 132; (with_reducible refine (i_Years _ _).mono ?_); rintro e w' ⟨rfl, rfl⟩) | (go_at_call 98; (with_reducible refine (s_Amount6 _ _).mono ?_); rintro e w' ⟨rfl, rfl⟩) | (go_at_call 108; (with_reducible refine (s_Sum7 _ _).mono ?_); rintro e w' ⟨rfl, rfl⟩) | ((first | with_reducible refine wp_region_in x (by kernel_rfl) (by kernel_rfl) ?_ | with_reducible refine wp_region_here (by kernel_rfl) (by kernel_rfl) ?_); (repeat (go_big_quiet_step ((first | (go_at_call 103; with_reducible exact Ret.grow _ (HT.out _ _ (hv'.up (by repeat' (first | (with_reducible exact Up.refl _) | (with_reducible assumption) | (with_reducible refine Up.alloc ?_ _) | (with_reducible refine Up.drew ?_) | (with_reducible refine Up.grow ?_ _) | (with_reducible refine Up.setCell ?_ (by (try simp); (try omega)) _)))))) | (go_at_call 92; with_reducible exact Ret.same _ (s_In _ _ _ _)) | (go_at_call 96; with_reducible exact Ret.same _ (i_In _ _ _ _)) | (go_at_call 142; with_reducible exact Ret.same _ (s_Rate _ _)) | (go_at_call 104; with_reducible exact Ret.same _ (i_Rate _ _)) | (go_at_call 132; with_reducible exact Ret.same _ (i_Years _ _)) | (go_at_call 98; with_reducible exact Ret.same _ (s_Amount6 _ _)) | (go_at_call 108; with_reducible exact Ret.same _ (s_Sum7 _ _)))))); refine wpQuiet_nil ?_; intro w' hw'; obtain ⟨x, rfl⟩ := hw'))
  refine bodyPost_ret (v := .tuple #[.int .i64 0, spp0, .int .i64 1]) (by simp [results, Try.results117, go_sem, spp0]) rfl ?_
  exact ⟨rfl, (by repeat' (first | (with_reducible exact Up.refl _) | (with_reducible assumption) | (with_reducible refine Up.alloc ?_ _) | (with_reducible refine Up.drew ?_) | (with_reducible refine Up.grow ?_ _) | (with_reducible refine Up.setCell ?_ (by (try simp); (try omega)) _)))⟩
set_option maxRecDepth 100000 in
theorem i_SickBadC (T Z : Tab) (r age n b : Int) (v z : Value) (w : World) (hv : TabAt w T v) (hz : TabAt w Z z) (hT : T.okB = true) (hb : true = true ↔ Z.SOk) (hr : inR r 0 200 = false) :
    Calls Try.prog 117 #[v, z, .int .i64 r, .int .i64 age, .int .i64 n, .int .i64 b] w (Ret w (.tuple #[.int .i64 0, spp0, .int .i64 2])) := by
  have hv' := hv
  have hz' := hz
  have HZ : ∀ hb : true = true ↔ Z.SOk, Hid (∀ z w, TabAt w Z z → Calls Try.prog 147 #[z] w (Ret w (.bool true))) := fun hb => Lib.hid (i_SValid Z true hb)
  first | (replace HZ := HZ hb; clear hb) | clear HZ
  have HT := Lib.hid (i_Valid T true hT)
  clear hT
  obtain ⟨A, c, rfl, hc, hm, _, hI⟩ := hv
  obtain ⟨A2, c2, rfl, hc2, hm2, _, hI2⟩ := hz
  go_enter Try.func117, Try.ntmps117
  first | go_wp2_with (first | (go_at_call 103; (with_reducible refine (HT.out _ _ (hv'.up (by repeat' (first | (with_reducible exact Up.refl _) | (with_reducible assumption) | (with_reducible refine Up.alloc ?_ _) | (with_reducible refine Up.drew ?_) | (with_reducible refine Up.grow ?_ _) | (with_reducible refine Up.setCell ?_ (by (try simp); (try omega)) _))))).mono ?_); rintro e w' ⟨rfl, hb⟩; first | (obtain ⟨x, rfl⟩ := Grow.on x hb) | (obtain ⟨x, rfl⟩ := Grow.mk' hb)) | (go_at_call 147; (with_reducible refine (HZ.out _ _ (hz'.up (by repeat' (first | (with_reducible exact Up.refl _) | (with_reducible assumption) | (with_reducible refine Up.alloc ?_ _) | (with_reducible refine Up.drew ?_) | (with_reducible refine Up.grow ?_ _) | (with_reducible refine Up.setCell ?_ (by (try simp); (try omega)) _))))).mono ?_); rintro e w' ⟨rfl, hb⟩; first | (obtain ⟨x, rfl⟩ := Grow.on x hb) | (obtain ⟨x, rfl⟩ := Grow.mk' hb)) | (go_at_call 92; (with_reducible refine (s_In _ _ _ _).mono ?_); rintro e w' ⟨rfl, rfl⟩) | (go_at_call 96; (with_reducible refine (i_In _ _ _ _).mono ?_); rintro e w' ⟨rfl, rfl⟩) | (go_at_call 142; (with_reducible refine (s_Rate _ _).mono ?_); rintro e w' ⟨rfl, rfl⟩) | (go_at_call 104; (with_reducible refine (i_Rate _ _).mono ?_); rintro e w' ⟨rfl, rfl⟩) | (go_at_call 132; (with_reducible refine (i_Years _ _).mono ?_); rintro e w' ⟨rfl, rfl⟩) | (go_at_call 98; (with_reducible refine (s_Amount6 _ _).mono ?_); rintro e w' ⟨rfl, rfl⟩) | (go_at_call 108; (with_reducible refine (s_Sum7 _ _).mono ?_); rintro e w' ⟨rfl, rfl⟩) | ((first | with_reducible refine wp_region_in x (by kernel_rfl) (by kernel_rfl) ?_ | with_reducible refine wp_region_here (by kernel_rfl) (by kernel_rfl) ?_); (repeat (go_big_quiet_step ((first | (go_at_call 103; with_reducible exact Ret.grow _ (HT.out _ _ (hv'.up (by repeat' (first | (with_reducible exact Up.refl _) | (with_reducible assumption) | (with_reducible refine Up.alloc ?_ _) | (with_reducible refine Up.drew ?_) | (with_reducible refine Up.grow ?_ _) | (with_reducible refine Up.setCell ?_ (by (try simp); (try omega)) _)))))) | (go_at_call 147; with_reducible exact Ret.grow _ (HZ.out _ _ (hz'.up (by repeat' (first | (with_reducible exact Up.refl _) | (with_reducible assumption) | (with_reducible refine Up.alloc ?_ _) | (with_reducible refine Up.drew ?_) | (with_reducible refine Up.grow ?_ _) | (with_reducible refine Up.setCell ?_ (by (try simp); (try omega)) _)))))) | (go_at_call 92; with_reducible exact Ret.same _ (s_In _ _ _ _)) | (go_at_call 96; with_reducible exact Ret.same _ (i_In _ _ _ _)) | (go_at_call 142; with_reducible exact Ret.same _ (s_Rate _ _)) | (go_at_call 104; with_reducible exact Ret.same _ (i_Rate _ _)) | (go_at_call 132; with_reducible exact Ret.same _ (i_Years _ _)) | (go_at_call 98; with_reducible exact Ret.same _ (s_Amount6 _ _)) | (go_at_call 108; with_reducible exact Ret.same _ (s_Sum7 _ _)))))); refine wpQuiet_nil ?_; intro w' hw'; obtain ⟨x, rfl⟩ := hw')) | go_wp2_with (first | (go_at_call 103; (with_reducible refine (HT.out _ _ (hv'.up (by repeat' (first | (with_reducible exact Up.refl _) | (with_reducible assumption) | (with_reducible refine Up.alloc ?_ _) | (with_reducible refine Up.drew ?_) | (with_reducible refine Up.grow ?_ _) | (with_reducible refine Up.setCell ?_ (by (try simp); (try omega)) _))))).mono ?_); rintro e w' ⟨rfl, hb⟩; first | (obtain ⟨x, rfl⟩ := Grow.on x hb) | (obtain ⟨x, rfl⟩ := Grow.mk' hb)) | (go_at_call 92; (with_reducible refine (s_In _ _ _ _).mono ?_); rintro e w' ⟨rfl, rfl⟩) | (go_at_call 96; (with_reducible refine (i_In _ _ _ _).mono ?_); rintro e w' ⟨rfl, rfl⟩) | (go_at_call 142; (with_reducible refine (s_Rate _ _).mono ?_); rintro e w' ⟨rfl, rfl⟩) | (go_at_call 104; (with_reducible refine (i_Rate _ _).mono ?_); rintro e w' ⟨rfl, rfl⟩) | (go_at_call 132; (with_reducible refine (i_Years _ _).mono ?_); rintro e w' ⟨rfl, rfl⟩) | (go_at_call 98; (with_reducible refine (s_Amount6 _ _).mono ?_); rintro e w' ⟨rfl, rfl⟩) | (go_at_call 108; (with_reducible refine (s_Sum7 _ _).mono ?_); rintro e w' ⟨rfl, rfl⟩) | ((first | with_reducible refine wp_region_in x (by kernel_rfl) (by kernel_rfl) ?_ | with_reducible refine wp_region_here (by kernel_rfl) (by kernel_rfl) ?_); (repeat (go_big_quiet_step ((first | (go_at_call 103; with_reducible exact Ret.grow _ (HT.out _ _ (hv'.up (by repeat' (first | (with_reducible exact Up.refl _) | (with_reducible assumption) | (with_reducible refine Up.alloc ?_ _) | (with_reducible refine Up.drew ?_) | (with_reducible refine Up.grow ?_ _) | (with_reducible refine Up.setCell ?_ (by (try simp); (try omega)) _)))))) | (go_at_call 92; with_reducible exact Ret.same _ (s_In _ _ _ _)) | (go_at_call 96; with_reducible exact Ret.same _ (i_In _ _ _ _)) | (go_at_call 142; with_reducible exact Ret.same _ (s_Rate _ _)) | (go_at_call 104; with_reducible exact Ret.same _ (i_Rate _ _)) | (go_at_call 132; with_reducible exact Ret.same _ (i_Years _ _)) | (go_at_call 98; with_reducible exact Ret.same _ (s_Amount6 _ _)) | (go_at_call 108; with_reducible exact Ret.same _ (s_Sum7 _ _)))))); refine wpQuiet_nil ?_; intro w' hw'; obtain ⟨x, rfl⟩ := hw'))
  refine bodyPost_ret (v := .tuple #[.int .i64 0, spp0, .int .i64 2]) (by simp [results, Try.results117, go_sem, spp0]) rfl ?_
  exact ⟨rfl, (by repeat' (first | (with_reducible exact Up.refl _) | (with_reducible assumption) | (with_reducible refine Up.alloc ?_ _) | (with_reducible refine Up.drew ?_) | (with_reducible refine Up.grow ?_ _) | (with_reducible refine Up.setCell ?_ (by (try simp); (try omega)) _)))⟩
set_option maxRecDepth 100000 in
theorem i_SickBadD (T Z : Tab) (r age n b : Int) (v z : Value) (w : World) (hv : TabAt w T v) (hz : TabAt w Z z) (hT : T.okB = true) (hb : true = true ↔ Z.SOk) (hr : inR r 0 200 = true) (ha : inR age T.first 150 = false) :
    Calls Try.prog 117 #[v, z, .int .i64 r, .int .i64 age, .int .i64 n, .int .i64 b] w (Ret w (.tuple #[.int .i64 0, spp0, .int .i64 2])) := by
  have hv' := hv
  have hz' := hz
  have HZ : ∀ hb : true = true ↔ Z.SOk, Hid (∀ z w, TabAt w Z z → Calls Try.prog 147 #[z] w (Ret w (.bool true))) := fun hb => Lib.hid (i_SValid Z true hb)
  first | (replace HZ := HZ hb; clear hb) | clear HZ
  have HT := Lib.hid (i_Valid T true hT)
  clear hT
  obtain ⟨A, c, rfl, hc, hm, _, hI⟩ := hv
  obtain ⟨A2, c2, rfl, hc2, hm2, _, hI2⟩ := hz
  go_enter Try.func117, Try.ntmps117
  first | go_wp2_with (first | (go_at_call 103; (with_reducible refine (HT.out _ _ (hv'.up (by repeat' (first | (with_reducible exact Up.refl _) | (with_reducible assumption) | (with_reducible refine Up.alloc ?_ _) | (with_reducible refine Up.drew ?_) | (with_reducible refine Up.grow ?_ _) | (with_reducible refine Up.setCell ?_ (by (try simp); (try omega)) _))))).mono ?_); rintro e w' ⟨rfl, hb⟩; first | (obtain ⟨x, rfl⟩ := Grow.on x hb) | (obtain ⟨x, rfl⟩ := Grow.mk' hb)) | (go_at_call 147; (with_reducible refine (HZ.out _ _ (hz'.up (by repeat' (first | (with_reducible exact Up.refl _) | (with_reducible assumption) | (with_reducible refine Up.alloc ?_ _) | (with_reducible refine Up.drew ?_) | (with_reducible refine Up.grow ?_ _) | (with_reducible refine Up.setCell ?_ (by (try simp); (try omega)) _))))).mono ?_); rintro e w' ⟨rfl, hb⟩; first | (obtain ⟨x, rfl⟩ := Grow.on x hb) | (obtain ⟨x, rfl⟩ := Grow.mk' hb)) | (go_at_call 92; (with_reducible refine (s_In _ _ _ _).mono ?_); rintro e w' ⟨rfl, rfl⟩) | (go_at_call 96; (with_reducible refine (i_In _ _ _ _).mono ?_); rintro e w' ⟨rfl, rfl⟩) | (go_at_call 142; (with_reducible refine (s_Rate _ _).mono ?_); rintro e w' ⟨rfl, rfl⟩) | (go_at_call 104; (with_reducible refine (i_Rate _ _).mono ?_); rintro e w' ⟨rfl, rfl⟩) | (go_at_call 132; (with_reducible refine (i_Years _ _).mono ?_); rintro e w' ⟨rfl, rfl⟩) | (go_at_call 98; (with_reducible refine (s_Amount6 _ _).mono ?_); rintro e w' ⟨rfl, rfl⟩) | (go_at_call 108; (with_reducible refine (s_Sum7 _ _).mono ?_); rintro e w' ⟨rfl, rfl⟩) | ((first | with_reducible refine wp_region_in x (by kernel_rfl) (by kernel_rfl) ?_ | with_reducible refine wp_region_here (by kernel_rfl) (by kernel_rfl) ?_); (repeat (go_big_quiet_step ((first | (go_at_call 103; with_reducible exact Ret.grow _ (HT.out _ _ (hv'.up (by repeat' (first | (with_reducible exact Up.refl _) | (with_reducible assumption) | (with_reducible refine Up.alloc ?_ _) | (with_reducible refine Up.drew ?_) | (with_reducible refine Up.grow ?_ _) | (with_reducible refine Up.setCell ?_ (by (try simp); (try omega)) _)))))) | (go_at_call 147; with_reducible exact Ret.grow _ (HZ.out _ _ (hz'.up (by repeat' (first | (with_reducible exact Up.refl _) | (with_reducible assumption) | (with_reducible refine Up.alloc ?_ _) | (with_reducible refine Up.drew ?_) | (with_reducible refine Up.grow ?_ _) | (with_reducible refine Up.setCell ?_ (by (try simp); (try omega)) _)))))) | (go_at_call 92; with_reducible exact Ret.same _ (s_In _ _ _ _)) | (go_at_call 96; with_reducible exact Ret.same _ (i_In _ _ _ _)) | (go_at_call 142; with_reducible exact Ret.same _ (s_Rate _ _)) | (go_at_call 104; with_reducible exact Ret.same _ (i_Rate _ _)) | (go_at_call 132; with_reducible exact Ret.same _ (i_Years _ _)) | (go_at_call 98; with_reducible exact Ret.same _ (s_Amount6 _ _)) | (go_at_call 108; with_reducible exact Ret.same _ (s_Sum7 _ _)))))); refine wpQuiet_nil ?_; intro w' hw'; obtain ⟨x, rfl⟩ := hw')) | go_wp2_with (first | (go_at_call 103; (with_reducible refine (HT.out _ _ (hv'.up (by repeat' (first | (with_reducible exact Up.refl _) | (with_reducible assumption) | (with_reducible refine Up.alloc ?_ _) | (with_reducible refine Up.drew ?_) | (with_reducible refine Up.grow ?_ _) | (with_reducible refine Up.setCell ?_ (by (try simp); (try omega)) _))))).mono ?_); rintro e w' ⟨rfl, hb⟩; first | (obtain ⟨x, rfl⟩ := Grow.on x hb) | (obtain ⟨x, rfl⟩ := Grow.mk' hb)) | (go_at_call 92; (with_reducible refine (s_In _ _ _ _).mono ?_); rintro e w' ⟨rfl, rfl⟩) | (go_at_call 96; (with_reducible refine (i_In _ _ _ _).mono ?_); rintro e w' ⟨rfl, rfl⟩) | (go_at_call 142; (with_reducible refine (s_Rate _ _).mono ?_); rintro e w' ⟨rfl, rfl⟩) | (go_at_call 104; (with_reducible refine (i_Rate _ _).mono ?_); rintro e w' ⟨rfl, rfl⟩) | (go_at_call 132; (with_reducible refine (i_Years _ _).mono ?_); rintro e w' ⟨rfl, rfl⟩) | (go_at_call 98; (with_reducible refine (s_Amount6 _ _).mono ?_); rintro e w' ⟨rfl, rfl⟩) | (go_at_call 108; (with_reducible refine (s_Sum7 _ _).mono ?_); rintro e w' ⟨rfl, rfl⟩) | ((first | with_reducible refine wp_region_in x (by kernel_rfl) (by kernel_rfl) ?_ | with_reducible refine wp_region_here (by kernel_rfl) (by kernel_rfl) ?_); (repeat (go_big_quiet_step ((first | (go_at_call 103; with_reducible exact Ret.grow _ (HT.out _ _ (hv'.up (by repeat' (first | (with_reducible exact Up.refl _) | (with_reducible assumption) | (with_reducible refine Up.alloc ?_ _) | (with_reducible refine Up.drew ?_) | (with_reducible refine Up.grow ?_ _) | (with_reducible refine Up.setCell ?_ (by (try simp); (try omega)) _)))))) | (go_at_call 92; with_reducible exact Ret.same _ (s_In _ _ _ _)) | (go_at_call 96; with_reducible exact Ret.same _ (i_In _ _ _ _)) | (go_at_call 142; with_reducible exact Ret.same _ (s_Rate _ _)) | (go_at_call 104; with_reducible exact Ret.same _ (i_Rate _ _)) | (go_at_call 132; with_reducible exact Ret.same _ (i_Years _ _)) | (go_at_call 98; with_reducible exact Ret.same _ (s_Amount6 _ _)) | (go_at_call 108; with_reducible exact Ret.same _ (s_Sum7 _ _)))))); refine wpQuiet_nil ?_; intro w' hw'; obtain ⟨x, rfl⟩ := hw'))
  refine bodyPost_ret (v := .tuple #[.int .i64 0, spp0, .int .i64 2]) (by simp [results, Try.results117, go_sem, spp0]) rfl ?_
  exact ⟨rfl, (by repeat' (first | (with_reducible exact Up.refl _) | (with_reducible assumption) | (with_reducible refine Up.alloc ?_ _) | (with_reducible refine Up.drew ?_) | (with_reducible refine Up.grow ?_ _) | (with_reducible refine Up.setCell ?_ (by (try simp); (try omega)) _)))⟩
set_option maxRecDepth 100000 in
theorem i_SickBadE (T Z : Tab) (r age n b : Int) (v z : Value) (w : World) (hv : TabAt w T v) (hz : TabAt w Z z) (hT : T.okB = true) (hb : true = true ↔ Z.SOk) (hr : inR r 0 200 = true) (ha : inR age T.first 150 = true) (hn : inR n 1 60 = false) :
    Calls Try.prog 117 #[v, z, .int .i64 r, .int .i64 age, .int .i64 n, .int .i64 b] w (Ret w (.tuple #[.int .i64 0, spp0, .int .i64 2])) := by
  have hv' := hv
  have hz' := hz
  have HZ : ∀ hb : true = true ↔ Z.SOk, Hid (∀ z w, TabAt w Z z → Calls Try.prog 147 #[z] w (Ret w (.bool true))) := fun hb => Lib.hid (i_SValid Z true hb)
  first | (replace HZ := HZ hb; clear hb) | clear HZ
  have HT := Lib.hid (i_Valid T true hT)
  clear hT
  obtain ⟨A, c, rfl, hc, hm, _, hI⟩ := hv
  obtain ⟨A2, c2, rfl, hc2, hm2, _, hI2⟩ := hz
  go_enter Try.func117, Try.ntmps117
  first | go_wp2_with (first | (go_at_call 103; (with_reducible refine (HT.out _ _ (hv'.up (by repeat' (first | (with_reducible exact Up.refl _) | (with_reducible assumption) | (with_reducible refine Up.alloc ?_ _) | (with_reducible refine Up.drew ?_) | (with_reducible refine Up.grow ?_ _) | (with_reducible refine Up.setCell ?_ (by (try simp); (try omega)) _))))).mono ?_); rintro e w' ⟨rfl, hb⟩; first | (obtain ⟨x, rfl⟩ := Grow.on x hb) | (obtain ⟨x, rfl⟩ := Grow.mk' hb)) | (go_at_call 147; (with_reducible refine (HZ.out _ _ (hz'.up (by repeat' (first | (with_reducible exact Up.refl _) | (with_reducible assumption) | (with_reducible refine Up.alloc ?_ _) | (with_reducible refine Up.drew ?_) | (with_reducible refine Up.grow ?_ _) | (with_reducible refine Up.setCell ?_ (by (try simp); (try omega)) _))))).mono ?_); rintro e w' ⟨rfl, hb⟩; first | (obtain ⟨x, rfl⟩ := Grow.on x hb) | (obtain ⟨x, rfl⟩ := Grow.mk' hb)) | (go_at_call 92; (with_reducible refine (s_In _ _ _ _).mono ?_); rintro e w' ⟨rfl, rfl⟩) | (go_at_call 96; (with_reducible refine (i_In _ _ _ _).mono ?_); rintro e w' ⟨rfl, rfl⟩) | (go_at_call 142; (with_reducible refine (s_Rate _ _).mono ?_); rintro e w' ⟨rfl, rfl⟩) | (go_at_call 104; (with_reducible refine (i_Rate _ _).mono ?_); rintro e w' ⟨rfl, rfl⟩) | (go_at_call 132; (with_reducible refine (i_Years _ _).mono ?_); rintro e w' ⟨rfl, rfl⟩) | (go_at_call 98; (with_reducible refine (s_Amount6 _ _).mono ?_); rintro e w' ⟨rfl, rfl⟩) | (go_at_call 108; (with_reducible refine (s_Sum7 _ _).mono ?_); rintro e w' ⟨rfl, rfl⟩) | ((first | with_reducible refine wp_region_in x (by kernel_rfl) (by kernel_rfl) ?_ | with_reducible refine wp_region_here (by kernel_rfl) (by kernel_rfl) ?_); (repeat (go_big_quiet_step ((first | (go_at_call 103; with_reducible exact Ret.grow _ (HT.out _ _ (hv'.up (by repeat' (first | (with_reducible exact Up.refl _) | (with_reducible assumption) | (with_reducible refine Up.alloc ?_ _) | (with_reducible refine Up.drew ?_) | (with_reducible refine Up.grow ?_ _) | (with_reducible refine Up.setCell ?_ (by (try simp); (try omega)) _)))))) | (go_at_call 147; with_reducible exact Ret.grow _ (HZ.out _ _ (hz'.up (by repeat' (first | (with_reducible exact Up.refl _) | (with_reducible assumption) | (with_reducible refine Up.alloc ?_ _) | (with_reducible refine Up.drew ?_) | (with_reducible refine Up.grow ?_ _) | (with_reducible refine Up.setCell ?_ (by (try simp); (try omega)) _)))))) | (go_at_call 92; with_reducible exact Ret.same _ (s_In _ _ _ _)) | (go_at_call 96; with_reducible exact Ret.same _ (i_In _ _ _ _)) | (go_at_call 142; with_reducible exact Ret.same _ (s_Rate _ _)) | (go_at_call 104; with_reducible exact Ret.same _ (i_Rate _ _)) | (go_at_call 132; with_reducible exact Ret.same _ (i_Years _ _)) | (go_at_call 98; with_reducible exact Ret.same _ (s_Amount6 _ _)) | (go_at_call 108; with_reducible exact Ret.same _ (s_Sum7 _ _)))))); refine wpQuiet_nil ?_; intro w' hw'; obtain ⟨x, rfl⟩ := hw')) | go_wp2_with (first | (go_at_call 103; (with_reducible refine (HT.out _ _ (hv'.up (by repeat' (first | (with_reducible exact Up.refl _) | (with_reducible assumption) | (with_reducible refine Up.alloc ?_ _) | (with_reducible refine Up.drew ?_) | (with_reducible refine Up.grow ?_ _) | (with_reducible refine Up.setCell ?_ (by (try simp); (try omega)) _))))).mono ?_); rintro e w' ⟨rfl, hb⟩; first | (obtain ⟨x, rfl⟩ := Grow.on x hb) | (obtain ⟨x, rfl⟩ := Grow.mk' hb)) | (go_at_call 92; (with_reducible refine (s_In _ _ _ _).mono ?_); rintro e w' ⟨rfl, rfl⟩) | (go_at_call 96; (with_reducible refine (i_In _ _ _ _).mono ?_); rintro e w' ⟨rfl, rfl⟩) | (go_at_call 142; (with_reducible refine (s_Rate _ _).mono ?_); rintro e w' ⟨rfl, rfl⟩) | (go_at_call 104; (with_reducible refine (i_Rate _ _).mono ?_); rintro e w' ⟨rfl, rfl⟩) | (go_at_call 132; (with_reducible refine (i_Years _ _).mono ?_); rintro e w' ⟨rfl, rfl⟩) | (go_at_call 98; (with_reducible refine (s_Amount6 _ _).mono ?_); rintro e w' ⟨rfl, rfl⟩) | (go_at_call 108; (with_reducible refine (s_Sum7 _ _).mono ?_); rintro e w' ⟨rfl, rfl⟩) | ((first | with_reducible refine wp_region_in x (by kernel_rfl) (by kernel_rfl) ?_ | with_reducible refine wp_region_here (by kernel_rfl) (by kernel_rfl) ?_); (repeat (go_big_quiet_step ((first | (go_at_call 103; with_reducible exact Ret.grow _ (HT.out _ _ (hv'.up (by repeat' (first | (with_reducible exact Up.refl _) | (with_reducible assumption) | (with_reducible refine Up.alloc ?_ _) | (with_reducible refine Up.drew ?_) | (with_reducible refine Up.grow ?_ _) | (with_reducible refine Up.setCell ?_ (by (try simp); (try omega)) _)))))) | (go_at_call 92; with_reducible exact Ret.same _ (s_In _ _ _ _)) | (go_at_call 96; with_reducible exact Ret.same _ (i_In _ _ _ _)) | (go_at_call 142; with_reducible exact Ret.same _ (s_Rate _ _)) | (go_at_call 104; with_reducible exact Ret.same _ (i_Rate _ _)) | (go_at_call 132; with_reducible exact Ret.same _ (i_Years _ _)) | (go_at_call 98; with_reducible exact Ret.same _ (s_Amount6 _ _)) | (go_at_call 108; with_reducible exact Ret.same _ (s_Sum7 _ _)))))); refine wpQuiet_nil ?_; intro w' hw'; obtain ⟨x, rfl⟩ := hw'))
  refine bodyPost_ret (v := .tuple #[.int .i64 0, spp0, .int .i64 2]) (by simp [results, Try.results117, go_sem, spp0]) rfl ?_
  exact ⟨rfl, (by repeat' (first | (with_reducible exact Up.refl _) | (with_reducible assumption) | (with_reducible refine Up.alloc ?_ _) | (with_reducible refine Up.drew ?_) | (with_reducible refine Up.grow ?_ _) | (with_reducible refine Up.setCell ?_ (by (try simp); (try omega)) _)))⟩
set_option maxRecDepth 100000 in
theorem i_SickBadF (T Z : Tab) (r age n b : Int) (v z : Value) (w : World) (hv : TabAt w T v) (hz : TabAt w Z z) (hT : T.okB = true) (hb : true = true ↔ Z.SOk) (hr : inR r 0 200 = true) (ha : inR age T.first 150 = true) (hn : inR n 1 60 = true) (h1 : 150 < age + n) (h2 : age + n ≤ 1000) :
    Calls Try.prog 117 #[v, z, .int .i64 r, .int .i64 age, .int .i64 n, .int .i64 b] w (Ret w (.tuple #[.int .i64 0, spp0, .int .i64 2])) := by
  have hv' := hv
  have hz' := hz
  have HZ : ∀ hb : true = true ↔ Z.SOk, Hid (∀ z w, TabAt w Z z → Calls Try.prog 147 #[z] w (Ret w (.bool true))) := fun hb => Lib.hid (i_SValid Z true hb)
  first | (replace HZ := HZ hb; clear hb) | clear HZ
  have HT := Lib.hid (i_Valid T true hT)
  clear hT
  obtain ⟨A, c, rfl, hc, hm, _, hI⟩ := hv
  obtain ⟨A2, c2, rfl, hc2, hm2, _, hI2⟩ := hz
  go_enter Try.func117, Try.ntmps117
  first | go_wp2_with (first | (go_at_call 103; (with_reducible refine (HT.out _ _ (hv'.up (by repeat' (first | (with_reducible exact Up.refl _) | (with_reducible assumption) | (with_reducible refine Up.alloc ?_ _) | (with_reducible refine Up.drew ?_) | (with_reducible refine Up.grow ?_ _) | (with_reducible refine Up.setCell ?_ (by (try simp); (try omega)) _))))).mono ?_); rintro e w' ⟨rfl, hb⟩; first | (obtain ⟨x, rfl⟩ := Grow.on x hb) | (obtain ⟨x, rfl⟩ := Grow.mk' hb)) | (go_at_call 147; (with_reducible refine (HZ.out _ _ (hz'.up (by repeat' (first | (with_reducible exact Up.refl _) | (with_reducible assumption) | (with_reducible refine Up.alloc ?_ _) | (with_reducible refine Up.drew ?_) | (with_reducible refine Up.grow ?_ _) | (with_reducible refine Up.setCell ?_ (by (try simp); (try omega)) _))))).mono ?_); rintro e w' ⟨rfl, hb⟩; first | (obtain ⟨x, rfl⟩ := Grow.on x hb) | (obtain ⟨x, rfl⟩ := Grow.mk' hb)) | (go_at_call 92; (with_reducible refine (s_In _ _ _ _).mono ?_); rintro e w' ⟨rfl, rfl⟩) | (go_at_call 96; (with_reducible refine (i_In _ _ _ _).mono ?_); rintro e w' ⟨rfl, rfl⟩) | (go_at_call 142; (with_reducible refine (s_Rate _ _).mono ?_); rintro e w' ⟨rfl, rfl⟩) | (go_at_call 104; (with_reducible refine (i_Rate _ _).mono ?_); rintro e w' ⟨rfl, rfl⟩) | (go_at_call 132; (with_reducible refine (i_Years _ _).mono ?_); rintro e w' ⟨rfl, rfl⟩) | (go_at_call 98; (with_reducible refine (s_Amount6 _ _).mono ?_); rintro e w' ⟨rfl, rfl⟩) | (go_at_call 108; (with_reducible refine (s_Sum7 _ _).mono ?_); rintro e w' ⟨rfl, rfl⟩) | ((first | with_reducible refine wp_region_in x (by kernel_rfl) (by kernel_rfl) ?_ | with_reducible refine wp_region_here (by kernel_rfl) (by kernel_rfl) ?_); (repeat (go_big_quiet_step ((first | (go_at_call 103; with_reducible exact Ret.grow _ (HT.out _ _ (hv'.up (by repeat' (first | (with_reducible exact Up.refl _) | (with_reducible assumption) | (with_reducible refine Up.alloc ?_ _) | (with_reducible refine Up.drew ?_) | (with_reducible refine Up.grow ?_ _) | (with_reducible refine Up.setCell ?_ (by (try simp); (try omega)) _)))))) | (go_at_call 147; with_reducible exact Ret.grow _ (HZ.out _ _ (hz'.up (by repeat' (first | (with_reducible exact Up.refl _) | (with_reducible assumption) | (with_reducible refine Up.alloc ?_ _) | (with_reducible refine Up.drew ?_) | (with_reducible refine Up.grow ?_ _) | (with_reducible refine Up.setCell ?_ (by (try simp); (try omega)) _)))))) | (go_at_call 92; with_reducible exact Ret.same _ (s_In _ _ _ _)) | (go_at_call 96; with_reducible exact Ret.same _ (i_In _ _ _ _)) | (go_at_call 142; with_reducible exact Ret.same _ (s_Rate _ _)) | (go_at_call 104; with_reducible exact Ret.same _ (i_Rate _ _)) | (go_at_call 132; with_reducible exact Ret.same _ (i_Years _ _)) | (go_at_call 98; with_reducible exact Ret.same _ (s_Amount6 _ _)) | (go_at_call 108; with_reducible exact Ret.same _ (s_Sum7 _ _)))))); refine wpQuiet_nil ?_; intro w' hw'; obtain ⟨x, rfl⟩ := hw')) | go_wp2_with (first | (go_at_call 103; (with_reducible refine (HT.out _ _ (hv'.up (by repeat' (first | (with_reducible exact Up.refl _) | (with_reducible assumption) | (with_reducible refine Up.alloc ?_ _) | (with_reducible refine Up.drew ?_) | (with_reducible refine Up.grow ?_ _) | (with_reducible refine Up.setCell ?_ (by (try simp); (try omega)) _))))).mono ?_); rintro e w' ⟨rfl, hb⟩; first | (obtain ⟨x, rfl⟩ := Grow.on x hb) | (obtain ⟨x, rfl⟩ := Grow.mk' hb)) | (go_at_call 92; (with_reducible refine (s_In _ _ _ _).mono ?_); rintro e w' ⟨rfl, rfl⟩) | (go_at_call 96; (with_reducible refine (i_In _ _ _ _).mono ?_); rintro e w' ⟨rfl, rfl⟩) | (go_at_call 142; (with_reducible refine (s_Rate _ _).mono ?_); rintro e w' ⟨rfl, rfl⟩) | (go_at_call 104; (with_reducible refine (i_Rate _ _).mono ?_); rintro e w' ⟨rfl, rfl⟩) | (go_at_call 132; (with_reducible refine (i_Years _ _).mono ?_); rintro e w' ⟨rfl, rfl⟩) | (go_at_call 98; (with_reducible refine (s_Amount6 _ _).mono ?_); rintro e w' ⟨rfl, rfl⟩) | (go_at_call 108; (with_reducible refine (s_Sum7 _ _).mono ?_); rintro e w' ⟨rfl, rfl⟩) | ((first | with_reducible refine wp_region_in x (by kernel_rfl) (by kernel_rfl) ?_ | with_reducible refine wp_region_here (by kernel_rfl) (by kernel_rfl) ?_); (repeat (go_big_quiet_step ((first | (go_at_call 103; with_reducible exact Ret.grow _ (HT.out _ _ (hv'.up (by repeat' (first | (with_reducible exact Up.refl _) | (with_reducible assumption) | (with_reducible refine Up.alloc ?_ _) | (with_reducible refine Up.drew ?_) | (with_reducible refine Up.grow ?_ _) | (with_reducible refine Up.setCell ?_ (by (try simp); (try omega)) _)))))) | (go_at_call 92; with_reducible exact Ret.same _ (s_In _ _ _ _)) | (go_at_call 96; with_reducible exact Ret.same _ (i_In _ _ _ _)) | (go_at_call 142; with_reducible exact Ret.same _ (s_Rate _ _)) | (go_at_call 104; with_reducible exact Ret.same _ (i_Rate _ _)) | (go_at_call 132; with_reducible exact Ret.same _ (i_Years _ _)) | (go_at_call 98; with_reducible exact Ret.same _ (s_Amount6 _ _)) | (go_at_call 108; with_reducible exact Ret.same _ (s_Sum7 _ _)))))); refine wpQuiet_nil ?_; intro w' hw'; obtain ⟨x, rfl⟩ := hw'))
  refine bodyPost_ret (v := .tuple #[.int .i64 0, spp0, .int .i64 2]) (by simp [results, Try.results117, go_sem, spp0]) rfl ?_
  exact ⟨rfl, (by repeat' (first | (with_reducible exact Up.refl _) | (with_reducible assumption) | (with_reducible refine Up.alloc ?_ _) | (with_reducible refine Up.drew ?_) | (with_reducible refine Up.grow ?_ _) | (with_reducible refine Up.setCell ?_ (by (try simp); (try omega)) _)))⟩
set_option maxRecDepth 100000 in
theorem i_SickBadG (T Z : Tab) (r age n b : Int) (v z : Value) (w : World) (hv : TabAt w T v) (hz : TabAt w Z z) (hT : T.okB = true) (hb : true = true ↔ Z.SOk) (hr : inR r 0 200 = true) (ha : inR age T.first 150 = true) (hn : inR n 1 60 = true) (h1 : age + n ≤ 150) (h2 : 0 ≤ age + n) (hm : inR b 1 100000 = false) :
    Calls Try.prog 117 #[v, z, .int .i64 r, .int .i64 age, .int .i64 n, .int .i64 b] w (Ret w (.tuple #[.int .i64 0, spp0, .int .i64 2])) := by
  have hv' := hv
  have hz' := hz
  have HZ : ∀ hb : true = true ↔ Z.SOk, Hid (∀ z w, TabAt w Z z → Calls Try.prog 147 #[z] w (Ret w (.bool true))) := fun hb => Lib.hid (i_SValid Z true hb)
  first | (replace HZ := HZ hb; clear hb) | clear HZ
  have HT := Lib.hid (i_Valid T true hT)
  clear hT
  obtain ⟨A, c, rfl, hc, hm, _, hI⟩ := hv
  obtain ⟨A2, c2, rfl, hc2, hm2, _, hI2⟩ := hz
  go_enter Try.func117, Try.ntmps117
  first | go_wp2_with (first | (go_at_call 103; (with_reducible refine (HT.out _ _ (hv'.up (by repeat' (first | (with_reducible exact Up.refl _) | (with_reducible assumption) | (with_reducible refine Up.alloc ?_ _) | (with_reducible refine Up.drew ?_) | (with_reducible refine Up.grow ?_ _) | (with_reducible refine Up.setCell ?_ (by (try simp); (try omega)) _))))).mono ?_); rintro e w' ⟨rfl, hb⟩; first | (obtain ⟨x, rfl⟩ := Grow.on x hb) | (obtain ⟨x, rfl⟩ := Grow.mk' hb)) | (go_at_call 147; (with_reducible refine (HZ.out _ _ (hz'.up (by repeat' (first | (with_reducible exact Up.refl _) | (with_reducible assumption) | (with_reducible refine Up.alloc ?_ _) | (with_reducible refine Up.drew ?_) | (with_reducible refine Up.grow ?_ _) | (with_reducible refine Up.setCell ?_ (by (try simp); (try omega)) _))))).mono ?_); rintro e w' ⟨rfl, hb⟩; first | (obtain ⟨x, rfl⟩ := Grow.on x hb) | (obtain ⟨x, rfl⟩ := Grow.mk' hb)) | (go_at_call 92; (with_reducible refine (s_In _ _ _ _).mono ?_); rintro e w' ⟨rfl, rfl⟩) | (go_at_call 96; (with_reducible refine (i_In _ _ _ _).mono ?_); rintro e w' ⟨rfl, rfl⟩) | (go_at_call 142; (with_reducible refine (s_Rate _ _).mono ?_); rintro e w' ⟨rfl, rfl⟩) | (go_at_call 104; (with_reducible refine (i_Rate _ _).mono ?_); rintro e w' ⟨rfl, rfl⟩) | (go_at_call 132; (with_reducible refine (i_Years _ _).mono ?_); rintro e w' ⟨rfl, rfl⟩) | (go_at_call 98; (with_reducible refine (s_Amount6 _ _).mono ?_); rintro e w' ⟨rfl, rfl⟩) | (go_at_call 108; (with_reducible refine (s_Sum7 _ _).mono ?_); rintro e w' ⟨rfl, rfl⟩) | ((first | with_reducible refine wp_region_in x (by kernel_rfl) (by kernel_rfl) ?_ | with_reducible refine wp_region_here (by kernel_rfl) (by kernel_rfl) ?_); (repeat (go_big_quiet_step ((first | (go_at_call 103; with_reducible exact Ret.grow _ (HT.out _ _ (hv'.up (by repeat' (first | (with_reducible exact Up.refl _) | (with_reducible assumption) | (with_reducible refine Up.alloc ?_ _) | (with_reducible refine Up.drew ?_) | (with_reducible refine Up.grow ?_ _) | (with_reducible refine Up.setCell ?_ (by (try simp); (try omega)) _)))))) | (go_at_call 147; with_reducible exact Ret.grow _ (HZ.out _ _ (hz'.up (by repeat' (first | (with_reducible exact Up.refl _) | (with_reducible assumption) | (with_reducible refine Up.alloc ?_ _) | (with_reducible refine Up.drew ?_) | (with_reducible refine Up.grow ?_ _) | (with_reducible refine Up.setCell ?_ (by (try simp); (try omega)) _)))))) | (go_at_call 92; with_reducible exact Ret.same _ (s_In _ _ _ _)) | (go_at_call 96; with_reducible exact Ret.same _ (i_In _ _ _ _)) | (go_at_call 142; with_reducible exact Ret.same _ (s_Rate _ _)) | (go_at_call 104; with_reducible exact Ret.same _ (i_Rate _ _)) | (go_at_call 132; with_reducible exact Ret.same _ (i_Years _ _)) | (go_at_call 98; with_reducible exact Ret.same _ (s_Amount6 _ _)) | (go_at_call 108; with_reducible exact Ret.same _ (s_Sum7 _ _)))))); refine wpQuiet_nil ?_; intro w' hw'; obtain ⟨x, rfl⟩ := hw')) | go_wp2_with (first | (go_at_call 103; (with_reducible refine (HT.out _ _ (hv'.up (by repeat' (first | (with_reducible exact Up.refl _) | (with_reducible assumption) | (with_reducible refine Up.alloc ?_ _) | (with_reducible refine Up.drew ?_) | (with_reducible refine Up.grow ?_ _) | (with_reducible refine Up.setCell ?_ (by (try simp); (try omega)) _))))).mono ?_); rintro e w' ⟨rfl, hb⟩; first | (obtain ⟨x, rfl⟩ := Grow.on x hb) | (obtain ⟨x, rfl⟩ := Grow.mk' hb)) | (go_at_call 92; (with_reducible refine (s_In _ _ _ _).mono ?_); rintro e w' ⟨rfl, rfl⟩) | (go_at_call 96; (with_reducible refine (i_In _ _ _ _).mono ?_); rintro e w' ⟨rfl, rfl⟩) | (go_at_call 142; (with_reducible refine (s_Rate _ _).mono ?_); rintro e w' ⟨rfl, rfl⟩) | (go_at_call 104; (with_reducible refine (i_Rate _ _).mono ?_); rintro e w' ⟨rfl, rfl⟩) | (go_at_call 132; (with_reducible refine (i_Years _ _).mono ?_); rintro e w' ⟨rfl, rfl⟩) | (go_at_call 98; (with_reducible refine (s_Amount6 _ _).mono ?_); rintro e w' ⟨rfl, rfl⟩) | (go_at_call 108; (with_reducible refine (s_Sum7 _ _).mono ?_); rintro e w' ⟨rfl, rfl⟩) | ((first | with_reducible refine wp_region_in x (by kernel_rfl) (by kernel_rfl) ?_ | with_reducible refine wp_region_here (by kernel_rfl) (by kernel_rfl) ?_); (repeat (go_big_quiet_step ((first | (go_at_call 103; with_reducible exact Ret.grow _ (HT.out _ _ (hv'.up (by repeat' (first | (with_reducible exact Up.refl _) | (with_reducible assumption) | (with_reducible refine Up.alloc ?_ _) | (with_reducible refine Up.drew ?_) | (with_reducible refine Up.grow ?_ _) | (with_reducible refine Up.setCell ?_ (by (try simp); (try omega)) _)))))) | (go_at_call 92; with_reducible exact Ret.same _ (s_In _ _ _ _)) | (go_at_call 96; with_reducible exact Ret.same _ (i_In _ _ _ _)) | (go_at_call 142; with_reducible exact Ret.same _ (s_Rate _ _)) | (go_at_call 104; with_reducible exact Ret.same _ (i_Rate _ _)) | (go_at_call 132; with_reducible exact Ret.same _ (i_Years _ _)) | (go_at_call 98; with_reducible exact Ret.same _ (s_Amount6 _ _)) | (go_at_call 108; with_reducible exact Ret.same _ (s_Sum7 _ _)))))); refine wpQuiet_nil ?_; intro w' hw'; obtain ⟨x, rfl⟩ := hw'))
  refine bodyPost_ret (v := .tuple #[.int .i64 0, spp0, .int .i64 2]) (by simp [results, Try.results117, go_sem, spp0]) rfl ?_
  exact ⟨rfl, (by repeat' (first | (with_reducible exact Up.refl _) | (with_reducible assumption) | (with_reducible refine Up.alloc ?_ _) | (with_reducible refine Up.drew ?_) | (with_reducible refine Up.grow ?_ _) | (with_reducible refine Up.setCell ?_ (by (try simp); (try omega)) _)))⟩

theorem blk_first (w : World) (t : TypeId) (cs : Array Value) (o : Obj) : Blk ((w.alloc (.cells cs t)).alloc o).drew w.heap.size t cs := ((Blk.new w t cs).alloc o).drew
theorem blk_second (w : World) (o : Obj) (t : TypeId) (cs : Array Value) : Blk ((w.alloc o).alloc (.cells cs t)).drew (w.heap.size + 1) t cs := by
  have h := Blk.new (w.alloc o) t cs
  rw [World.size_alloc] at h
  exact h.drew
theorem blk_both {w : World} {g : Nat} {t : TypeId} {cs : Array Value} (h : Blk w g t cs) (o1 o2 : Obj) : Blk ((w.alloc o1).alloc o2).drew g t cs := ((h.alloc o1).alloc o2).drew
/-- The memory of sickValue's loop. -/
def SickAt (w wr : World) (b6 b7 b13 g P Q : Nat) (cT cZ cP cQ cs : Array Value) : Prop :=
  Up w wr ∧ Blk wr b6 28 cT ∧ Blk wr b7 53 cZ ∧ Blk wr b13 68 #[.int .i64 0, .int .i64 0, .int .i64 0] ∧ Blk wr g 62 cs ∧ Blk wr P 62 cP ∧ Blk wr Q 62 cQ
theorem SickAt.up {w wr w2 : World} {b6 b7 b13 g P Q : Nat} {cT cZ cP cQ cs : Array Value} (h : SickAt w wr b6 b7 b13 g P Q cT cZ cP cQ cs) (u : Up wr w2) : SickAt w w2 b6 b7 b13 g P Q cT cZ cP cQ cs :=
  ⟨h.1.trans u, h.2.1.up u, h.2.2.1.up u, h.2.2.2.1.up u, h.2.2.2.2.1.up u, h.2.2.2.2.2.1.up u, h.2.2.2.2.2.2.up u⟩


set_option maxRecDepth 100000 in
set_option maxHeartbeats 4000000 in
theorem i_SickGoD (T Z : Tab) (r b : Int) (k n : Nat) (v z : Value) (w : World) (hv : TabAt w T v) (hz : TabAt w Z z) (hT : T.Ok) (hZ : Z.SOk) (hr : inR r 0 200 = true) (ha : inR (T.first + k) T.first 150 = true) (hn : inR n 1 60 = true) (hl : T.first + k + n ≤ 150) (hm1 : inR b 1 100000 = true) (hd : T.D r k = 0) :
    Calls Try.prog 117 #[v, z, .int .i64 r, .int .i64 (T.first + k), .int .i64 n, .int .i64 b] w (Ret w (.tuple #[.int .i64 0, spp0, .int .i64 5])) := by
  have hv' := hv
  have hz' := hz
  obtain ⟨A, c, rfl, hc, hm, _, hI⟩ := hv
  obtain ⟨A2, c2, rfl, hc2, hm2, _, hI2⟩ := hz
  have hb := (Tab.okB_iff T).2 hT
  have hr' := inR_true.1 hr
  have hn' := inR_true.1 hn
  have q0 := hT.lo
  have q1 := hT.hi
  have hbb : true = true ↔ Z.SOk := ⟨fun _ => hZ, fun _ => rfl⟩
  have HZ := Lib.hid (i_SValid Z true hbb)
  have HT := Lib.hid (i_Valid T true hb)
  obtain ⟨L, hL⟩ : ∃ L : Nat, (151 - T.first).toNat = L := ⟨_, rfl⟩
  have hcols := i_Cols hT hr'.1 hr'.2
  have i1 : IntKind.i64.wrap (T.first + k - T.first) = k := by rw [IntWalk.i64_in _ (by omega)]; omega
  have i2 : IntKind.i64.wrap (T.first + k + n) = T.first + k + n := IntWalk.i64_in _ (by omega)
  have i3 : IntKind.i64.wrap (T.first + k + n - T.first) = (k : Int) + n := by rw [IntWalk.i64_in _ (by omega)]; omega
  have i4 : ((k : Int) + n).toNat = k + n := by omega
  have hkL : (k : Int) < L := by omega
  have hjL : (k : Int) + n < L := by omega
  have h0k : (0 : Int) ≤ k := by omega
  have h0n : (0 : Int) ≤ (k : Int) + n := by omega
  have hkL2 : k < (151 - T.first).toNat := by omega
  have hjL2 : k + n < (151 - T.first).toNat := by omega
  clear hb hbb
  go_enter Try.func117, Try.ntmps117
  go_upto_region 6 with (first | (go_at_call 105; refine (hcols _ _ (hv'.up (by repeat' (first | (with_reducible exact Up.refl _) | (with_reducible assumption) | (with_reducible refine Up.alloc ?_ _) | (with_reducible refine Up.drew ?_) | (with_reducible refine Up.grow ?_ _) | (with_reducible refine Up.setCell ?_ (by (try simp); (try omega)) _))))).mono ?_; rintro e w5 ⟨v5, rfl, hb5, g, cs, rfl, hg, hcs⟩) | (go_at_call 92; refine (s_In _ _ _ _).mono ?_; rintro e w' ⟨rfl, rfl⟩) | (go_at_call 96; refine (i_In _ _ _ _).mono ?_; rintro e w' ⟨rfl, rfl⟩) | (go_at_call 142; refine (s_Rate _ _).mono ?_; rintro e w' ⟨rfl, rfl⟩) | (go_at_call 104; refine (i_Rate _ _).mono ?_; rintro e w' ⟨rfl, rfl⟩) | (go_at_call 132; refine (i_Years _ _).mono ?_; rintro e w' ⟨rfl, rfl⟩) | (go_at_call 98; refine (s_Amount6 _ _).mono ?_; rintro e w' ⟨rfl, rfl⟩) | (go_at_call 108; refine (s_Sum7 _ _).mono ?_; rintro e w' ⟨rfl, rfl⟩) | (go_at_call 103; refine (HT.out _ _ (hv'.up (by repeat' (first | (with_reducible exact Up.refl _) | (with_reducible assumption) | (with_reducible refine Up.alloc ?_ _) | (with_reducible refine Up.drew ?_) | (with_reducible refine Up.grow ?_ _) | (with_reducible refine Up.setCell ?_ (by (try simp); (try omega)) _))))).mono ?_; rintro e w' ⟨rfl, hbA⟩; obtain ⟨x, rfl⟩ := Grow.mk' hbA) | (go_at_call 147; refine (HZ.out _ _ (hz'.up (by repeat' (first | (with_reducible exact Up.refl _) | (with_reducible assumption) | (with_reducible refine Up.alloc ?_ _) | (with_reducible refine Up.drew ?_) | (with_reducible refine Up.grow ?_ _) | (with_reducible refine Up.setCell ?_ (by (try simp); (try omega)) _))))).mono ?_; rintro e w' ⟨rfl, hbB⟩; obtain ⟨y, rfl⟩ := Grow.on x hbB))
  have hb := (hbA.trans hbB).trans hb5
  have hT5 : Blk w5 w.heap.size 28 #[.int .i64 T.first, .slice A T.n c] := (((Blk.new _ _ _).alloc _).alloc _).up hb
  have h14 : Blk w5 (w.heap.size + 1) 53 #[.int .i64 Z.first, .slice A2 Z.n c2] := by
    have h := ((Blk.new (w.alloc (.cells #[.int .i64 T.first, .slice A T.n c] 28)) 53 #[.int .i64 Z.first, .slice A2 Z.n c2]).alloc (.cells #[.int .i64 0, .int .i64 0, .int .i64 0] 68)).up hb
    simpa only [World.size_alloc] using h
  have h15 : Blk w5 (w.heap.size + 1 + 1) 68 #[.int .i64 0, .int .i64 0, .int .i64 0] := by
    have h := (Blk.new ((w.alloc (.cells #[.int .i64 T.first, .slice A T.n c] 28)).alloc (.cells #[.int .i64 Z.first, .slice A2 Z.n c2] 53)) 68 #[.int .i64 0, .int .i64 0, .int .i64 0]).up hb
    simpa only [World.size_alloc] using h
  have hup : Up w w5 := (Up.alloc (Up.alloc (Up.alloc (Up.refl w) _) _) _).trans hb
  obtain ⟨a0, a1, a2, a3⟩ := row_at hg (hcs k hkL2)
  obtain ⟨b0, b1, b2, b3⟩ := row_at hg (hcs (k + n) hjL2)
  have t0 := hT5.cell 0
  have iT := hT5.inw; have ig := hg.inw; have i14 := h14.inw; have i15 := h15.inw
  have HCS := Lib.hid hcs
  clear hcs hb hbA hbB hb5 hcols hI hI2 hc hm hc2 hm2 hr hn ha
  have s2 : w.heap.size ≤ w.heap.size + 1 + 1 := by omega
  have e1 : ¬ g = w5.heap.size := by unfold InW at *; omega
  have e2 : ¬ g = w5.heap.size + 1 := by unfold InW at *; omega
  have e5 : ¬ w.heap.size = w5.heap.size := by unfold InW at *; omega
  have e6 : ¬ w.heap.size = w5.heap.size + 1 := by unfold InW at *; omega
  have e9 : ¬ w.heap.size + 1 + 1 = w5.heap.size := by unfold InW at *; omega
  have e10 : ¬ w.heap.size + 1 + 1 = w5.heap.size + 1 := by unfold InW at *; omega
  have e11 : ¬ w5.heap.size = w.heap.size + 1 + 1 := by unfold InW at *; omega
  have e12 : ¬ w5.heap.size + 1 = w.heap.size + 1 + 1 := by unfold InW at *; omega
  generalize w.heap.size + 1 + 1 = B2 at *
  generalize w.heap.size + 1 = B1 at *
  have k10 := h15.cell 0; have k11 := h15.cell 1; have k12 := h15.cell 2
  have z1 := h15.frozen
  go_region_held3 (fun w' => w'.cell? ⟨w.heap.size, 0, none⟩ = some (.int .i64 T.first) ∧ w'.cell? ⟨g, k * 4, none⟩ = some (.int .i64 (T.D r k)) ∧ w'.cell? ⟨g, k * 4 + 1, none⟩ = some (.int .i64 (T.N r k)) ∧ w'.cell? ⟨g, k * 4 + 2, none⟩ = some (.int .i64 (T.C r k)) ∧ w'.cell? ⟨g, k * 4 + 3, none⟩ = some (.int .i64 (T.M r k)) ∧
      w'.cell? ⟨g, (k + n) * 4, none⟩ = some (.int .i64 (T.D r (k + n))) ∧ w'.cell? ⟨g, (k + n) * 4 + 1, none⟩ = some (.int .i64 (T.N r (k + n))) ∧ w'.cell? ⟨g, (k + n) * 4 + 2, none⟩ = some (.int .i64 (T.C r (k + n))) ∧ w'.cell? ⟨g, (k + n) * 4 + 3, none⟩ = some (.int .i64 (T.M r (k + n)))) ((repeat' apply And.intro) <;> go_simp) (fail)
  all_goals
    go_wp2
    refine bodyPost_ret (v := .tuple #[.int .i64 0, spp0, .int .i64 5]) (by simp [results, Try.results117, go_sem, spp0, k10, k11, k12, i15]) rfl ?_
    exact ⟨rfl, (by repeat' (first | (with_reducible exact Up.refl _) | (with_reducible assumption) | (with_reducible refine Up.alloc ?_ _) | (with_reducible refine Up.drew ?_) | (with_reducible refine Up.grow ?_ _) | (with_reducible refine Up.setCell ?_ (by (try simp); (try omega)) _)))⟩

set_option maxRecDepth 100000 in
set_option maxHeartbeats 8000000 in
theorem i_SickGoK (T Z : Tab) (r b : Int) (k n : Nat) (v z : Value) (w : World) (hv : TabAt w T v) (hz : TabAt w Z z) (hT : T.Ok) (hZ : Z.SOk) (hr : inR r 0 200 = true) (ha : inR (T.first + k) T.first 150 = true) (hn : inR n 1 60 = true) (hl : T.first + k + n ≤ 150) (hm1 : inR b 1 100000 = true) (hd : 1 ≤ T.D r k) (hd1 : (T.D r k == 0) = false) :
    Calls Try.prog 117 #[v, z, .int .i64 r, .int .i64 (T.first + k), .int .i64 n, .int .i64 b] w (Ret w (.tuple #[.int .i64 (sickS T Z r k b n), .agg #[.int .i64 0, .int .i64 (T.D r k), .int .i64 (T.N r k - T.N r (k + n))], .int .i64 0])) := by
  have hm1' := inR_true.1 hm1
  have hv' := hv
  have hz' := hz
  obtain ⟨A, c, rfl, hc, hm, _, hI⟩ := hv
  obtain ⟨A2, c2, rfl, hc2, hm2, _, hI2⟩ := hz
  have hb := (Tab.okB_iff T).2 hT
  have hr' := inR_true.1 hr
  have hn' := inR_true.1 hn
  have q0 := hT.lo
  have q1 := hT.hi
  have hbb : true = true ↔ Z.SOk := ⟨fun _ => hZ, fun _ => rfl⟩
  have HZ := Lib.hid (i_SValid Z true hbb)
  have HT := Lib.hid (i_Valid T true hb)
  obtain ⟨L, hL⟩ : ∃ L : Nat, (151 - T.first).toNat = L := ⟨_, rfl⟩
  have hcols := i_Cols hT hr'.1 hr'.2
  have i1 : IntKind.i64.wrap (T.first + k - T.first) = k := by rw [IntWalk.i64_in _ (by omega)]; omega
  have i2 : IntKind.i64.wrap (T.first + k + n) = T.first + k + n := IntWalk.i64_in _ (by omega)
  have i3 : IntKind.i64.wrap (T.first + k + n - T.first) = (k : Int) + n := by rw [IntWalk.i64_in _ (by omega)]; omega
  have i4 : ((k : Int) + n).toNat = k + n := by omega
  have hkL : (k : Int) < L := by omega
  have hjL : (k : Int) + n < L := by omega
  have h0k : (0 : Int) ≤ k := by omega
  have h0n : (0 : Int) ≤ (k : Int) + n := by omega
  have hkL2 : k < (151 - T.first).toNat := by omega
  have hjL2 : k + n < (151 - T.first).toNat := by omega
  clear hb hbb
  go_enter Try.func117, Try.ntmps117
  go_upto_region 6 with (first | (go_at_call 105; refine (hcols _ _ (hv'.up (by repeat' (first | (with_reducible exact Up.refl _) | (with_reducible assumption) | (with_reducible refine Up.alloc ?_ _) | (with_reducible refine Up.drew ?_) | (with_reducible refine Up.grow ?_ _) | (with_reducible refine Up.setCell ?_ (by (try simp); (try omega)) _))))).mono ?_; rintro e w5 ⟨v5, rfl, hb5, g, cs, rfl, hg, hcs⟩) | (go_at_call 92; refine (s_In _ _ _ _).mono ?_; rintro e w' ⟨rfl, rfl⟩) | (go_at_call 96; refine (i_In _ _ _ _).mono ?_; rintro e w' ⟨rfl, rfl⟩) | (go_at_call 142; refine (s_Rate _ _).mono ?_; rintro e w' ⟨rfl, rfl⟩) | (go_at_call 104; refine (i_Rate _ _).mono ?_; rintro e w' ⟨rfl, rfl⟩) | (go_at_call 132; refine (i_Years _ _).mono ?_; rintro e w' ⟨rfl, rfl⟩) | (go_at_call 98; refine (s_Amount6 _ _).mono ?_; rintro e w' ⟨rfl, rfl⟩) | (go_at_call 108; refine (s_Sum7 _ _).mono ?_; rintro e w' ⟨rfl, rfl⟩) | (go_at_call 103; refine (HT.out _ _ (hv'.up (by repeat' (first | (with_reducible exact Up.refl _) | (with_reducible assumption) | (with_reducible refine Up.alloc ?_ _) | (with_reducible refine Up.drew ?_) | (with_reducible refine Up.grow ?_ _) | (with_reducible refine Up.setCell ?_ (by (try simp); (try omega)) _))))).mono ?_; rintro e w' ⟨rfl, hbA⟩; obtain ⟨x, rfl⟩ := Grow.mk' hbA) | (go_at_call 147; refine (HZ.out _ _ (hz'.up (by repeat' (first | (with_reducible exact Up.refl _) | (with_reducible assumption) | (with_reducible refine Up.alloc ?_ _) | (with_reducible refine Up.drew ?_) | (with_reducible refine Up.grow ?_ _) | (with_reducible refine Up.setCell ?_ (by (try simp); (try omega)) _))))).mono ?_; rintro e w' ⟨rfl, hbB⟩; obtain ⟨y, rfl⟩ := Grow.on x hbB))
  have hb := (hbA.trans hbB).trans hb5
  have hT5 : Blk w5 w.heap.size 28 #[.int .i64 T.first, .slice A T.n c] := (((Blk.new _ _ _).alloc _).alloc _).up hb
  have h14 : Blk w5 (w.heap.size + 1) 53 #[.int .i64 Z.first, .slice A2 Z.n c2] := by
    have h := ((Blk.new (w.alloc (.cells #[.int .i64 T.first, .slice A T.n c] 28)) 53 #[.int .i64 Z.first, .slice A2 Z.n c2]).alloc (.cells #[.int .i64 0, .int .i64 0, .int .i64 0] 68)).up hb
    simpa only [World.size_alloc] using h
  have h15 : Blk w5 (w.heap.size + 1 + 1) 68 #[.int .i64 0, .int .i64 0, .int .i64 0] := by
    have h := (Blk.new ((w.alloc (.cells #[.int .i64 T.first, .slice A T.n c] 28)).alloc (.cells #[.int .i64 Z.first, .slice A2 Z.n c2] 53)) 68 #[.int .i64 0, .int .i64 0, .int .i64 0]).up hb
    simpa only [World.size_alloc] using h
  have hup : Up w w5 := (Up.alloc (Up.alloc (Up.alloc (Up.refl w) _) _) _).trans hb
  obtain ⟨a0, a1, a2, a3⟩ := row_at hg (hcs k hkL2)
  obtain ⟨b0, b1, b2, b3⟩ := row_at hg (hcs (k + n) hjL2)
  have t0 := hT5.cell 0
  have iT := hT5.inw; have ig := hg.inw; have i14 := h14.inw; have i15 := h15.inw
  have HCS := Lib.hid hcs
  clear hcs hb hbA hbB hb5 hcols hI hI2 hc hm hc2 hm2 hr hn ha
  have s2 : w.heap.size ≤ w.heap.size + 1 + 1 := by omega
  have e1 : ¬ g = w5.heap.size := by unfold InW at *; omega
  have e2 : ¬ g = w5.heap.size + 1 := by unfold InW at *; omega
  have e5 : ¬ w.heap.size = w5.heap.size := by unfold InW at *; omega
  have e6 : ¬ w.heap.size = w5.heap.size + 1 := by unfold InW at *; omega
  have e9 : ¬ w.heap.size + 1 + 1 = w5.heap.size := by unfold InW at *; omega
  have e10 : ¬ w.heap.size + 1 + 1 = w5.heap.size + 1 := by unfold InW at *; omega
  have e11 : ¬ w5.heap.size = w.heap.size + 1 + 1 := by unfold InW at *; omega
  have e12 : ¬ w5.heap.size + 1 = w.heap.size + 1 + 1 := by unfold InW at *; omega
  generalize w.heap.size + 1 + 1 = B2 at *
  generalize w.heap.size + 1 = B1 at *
  have k10 := h15.cell 0; have k11 := h15.cell 1; have k12 := h15.cell 2
  have z1 := h15.frozen
  go_region_held3 (fun w' => w'.cell? ⟨w.heap.size, 0, none⟩ = some (.int .i64 T.first) ∧ w'.cell? ⟨g, k * 4, none⟩ = some (.int .i64 (T.D r k)) ∧ w'.cell? ⟨g, k * 4 + 1, none⟩ = some (.int .i64 (T.N r k)) ∧ w'.cell? ⟨g, k * 4 + 2, none⟩ = some (.int .i64 (T.C r k)) ∧ w'.cell? ⟨g, k * 4 + 3, none⟩ = some (.int .i64 (T.M r k)) ∧
      w'.cell? ⟨g, (k + n) * 4, none⟩ = some (.int .i64 (T.D r (k + n))) ∧ w'.cell? ⟨g, (k + n) * 4 + 1, none⟩ = some (.int .i64 (T.N r (k + n))) ∧ w'.cell? ⟨g, (k + n) * 4 + 2, none⟩ = some (.int .i64 (T.C r (k + n))) ∧ w'.cell? ⟨g, (k + n) * 4 + 3, none⟩ = some (.int .i64 (T.M r (k + n)))) ((repeat' apply And.intro) <;> go_simp) (fail)
  · go_wp2
    go_loopw [18, 82] (fun s i wr => ∃ (j : Nat), j ≤ n ∧ i = .int .i64 j ∧ s = .int .i64 (sickS T Z r k b j) ∧ Hid (SickAt w wr w.heap.size B1 B2 g (w5.heap.size) (w5.heap.size + 1) #[.int .i64 T.first, .slice A T.n c] #[.int .i64 Z.first, .slice A2 Z.n c2] #[.int .i64 (T.D r k), .int .i64 (T.N r k), .int .i64 (T.C r k), .int .i64 (T.M r k)] #[.int .i64 (T.D r (k + n)), .int .i64 (T.N r (k + n)), .int .i64 (T.C r (k + n)), .int .i64 (T.M r (k + n))] cs)) (fun _ i _ => n - (intOf i).toNat)
    case atStart => exact ⟨0, by omega, rfl, rfl, Lib.hid ⟨(by repeat' (first | (with_reducible exact Up.refl _) | (with_reducible assumption) | (with_reducible refine Up.alloc ?_ _) | (with_reducible refine Up.drew ?_) | (with_reducible refine Up.grow ?_ _) | (with_reducible refine Up.setCell ?_ (by (try simp); (try omega)) _))), blk_both hT5 _ _, blk_both h14 _ _, blk_both h15 _ _, blk_both hg _ _, blk_first _ _ _ _, blk_second _ _ _ _⟩⟩
    case round =>
      clear hT5 h14 h15 hg iT ig i14 i15 k10 k11 k12 z1 t0 a0 a1 a2 a3 b0 b1 b2 b3
      obtain ⟨j, hj, rfl, rfl, HW⟩ := hrel
      by_cases hlt : j < n
      · obtain ⟨hup, hT6, hZ7, hB13, hg, hP, hQ⟩ := HW.out
        have t0 := hT6.cell 0
        have y0 := hZ7.cell 0; have y1 := hZ7.cell 1
        have p0 := hP.cell 0
        obtain ⟨r0, _, _, _⟩ := row_at hg (HCS.out (k + j) (by omega))
        have iT := hT6.inw; have iZ := hZ7.inw; have iP := hP.inw; have ig := hg.inw
        clear hT6 hZ7 hB13 hg hP hQ
        obtain ⟨a1, a2, a3, a4, a5, a6, a7, a8⟩ := sick_ab hT hZ hr'.1 hd hm1'.1 hm1'.2 j
        have hs := sickS_bd hT hZ hr'.1 hd hm1'.1 hm1'.2 j (by omega)
        have hgb := sickG_bd hT hZ hr'.1 hd hm1'.1 hm1'.2 j
        have hdd := hT.D_bd hr'.1 k
        have E : Hid (sickS T Z r k b (j + 1) = sickS T Z r k b j + up (b * Z.wk (T.first + k + j)) (T.D r (k + j)) (1000 * T.D r k)) := Lib.hid (sickS_succ _)
        have eg : sickG T Z r k b j = up (b * Z.wk (T.first + k + j)) (T.D r (k + j)) (1000 * T.D r k) := rfl
        rw [eg] at hgb
        have HU := Lib.hid (i_Priced (b * Z.wk (T.first + k + j)) (T.D r (k + j)) (1000 * T.D r k) a1 (by omega) a3 (by omega) (by omega) (by omega) (by omega))
        have HWk := Lib.hid (i_Weeks hZ (T.first + k + j))
        have i5 : IntKind.i64.wrap (T.first + k + j) = T.first + k + j := IntWalk.i64_in _ (by omega)
        have i6 : IntKind.i64.wrap (T.first + k + j - T.first) = (k : Int) + j := by rw [IntWalk.i64_in _ (by omega)]; omega
        have i7 : ((k : Int) + j).toNat = k + j := by omega
        have g1 : (0 : Int) ≤ (k : Int) + j := by omega
        have g2 : (k : Int) + j < L := by omega
        have i8 : IntKind.i64.wrap (b * Z.wk (T.first + k + j)) = b * Z.wk (T.first + k + j) := IntWalk.i64_in _ (by omega)
        have i9 : IntKind.i64.wrap (1000 * T.D r k) = 1000 * T.D r k := IntWalk.i64_in _ (by omega)
        clear eg
        generalize up (b * Z.wk (T.first + k + j)) (T.D r (k + j)) (1000 * T.D r k) = U at *
        generalize sickS T Z r k b j = V at *
        have i10 : IntKind.i64.wrap (V + U) = V + U := IntWalk.i64_in _ (by omega)
        clear a1 a2 a3 a4 a5 a6 a7 a8 hdd hs hgb
        go_wp2_with (first | (go_at_call 148; (with_reducible refine (HWk.out _ _ (hz'.up (by repeat' (first | (with_reducible exact Up.refl _) | (with_reducible assumption) | (with_reducible refine Up.alloc ?_ _) | (with_reducible refine Up.drew ?_) | (with_reducible refine Up.grow ?_ _) | (with_reducible refine Up.setCell ?_ (by (try simp); (try omega)) _))))).mono ?_); rintro e w' ⟨rfl, hb⟩; first | (obtain ⟨x, rfl⟩ := Grow.on x hb) | (obtain ⟨x, rfl⟩ := Grow.mk' hb)) | (go_at_call 100; (with_reducible refine (HU.out _).mono ?_); rintro e w' ⟨rfl, hb⟩; first | (obtain ⟨x, rfl⟩ := Grow.on x hb) | (obtain ⟨x, rfl⟩ := Grow.mk' hb)) | (go_at_call 92; (with_reducible refine (s_In _ _ _ _).mono ?_); rintro e w' ⟨rfl, rfl⟩) | (go_at_call 96; (with_reducible refine (i_In _ _ _ _).mono ?_); rintro e w' ⟨rfl, rfl⟩) | (go_at_call 142; (with_reducible refine (s_Rate _ _).mono ?_); rintro e w' ⟨rfl, rfl⟩) | (go_at_call 104; (with_reducible refine (i_Rate _ _).mono ?_); rintro e w' ⟨rfl, rfl⟩) | (go_at_call 132; (with_reducible refine (i_Years _ _).mono ?_); rintro e w' ⟨rfl, rfl⟩) | (go_at_call 98; (with_reducible refine (s_Amount6 _ _).mono ?_); rintro e w' ⟨rfl, rfl⟩) | (go_at_call 108; (with_reducible refine (s_Sum7 _ _).mono ?_); rintro e w' ⟨rfl, rfl⟩) | ((first | with_reducible refine wp_region_in x (by kernel_rfl) (by kernel_rfl) ?_ | with_reducible refine wp_region_here (by kernel_rfl) (by kernel_rfl) ?_); (repeat (go_big_quiet_step ((first | (go_at_call 148; with_reducible exact Ret.grow _ (HWk.out _ _ (hz'.up (by repeat' (first | (with_reducible exact Up.refl _) | (with_reducible assumption) | (with_reducible refine Up.alloc ?_ _) | (with_reducible refine Up.drew ?_) | (with_reducible refine Up.grow ?_ _) | (with_reducible refine Up.setCell ?_ (by (try simp); (try omega)) _)))))) | (go_at_call 100; with_reducible exact Ret.grow _ (HU.out _)) | (go_at_call 92; with_reducible exact Ret.same _ (s_In _ _ _ _)) | (go_at_call 96; with_reducible exact Ret.same _ (i_In _ _ _ _)) | (go_at_call 142; with_reducible exact Ret.same _ (s_Rate _ _)) | (go_at_call 104; with_reducible exact Ret.same _ (i_Rate _ _)) | (go_at_call 132; with_reducible exact Ret.same _ (i_Years _ _)) | (go_at_call 98; with_reducible exact Ret.same _ (s_Amount6 _ _)) | (go_at_call 108; with_reducible exact Ret.same _ (s_Sum7 _ _)))))); refine wpQuiet_nil ?_; intro w' hw'; obtain ⟨x, rfl⟩ := hw'))
        go_roundw
        case rel => exact ⟨j + 1, by omega, by go_num, by rw [E.out], Lib.hid (HW.out.up (by repeat' (first | (with_reducible exact Up.refl _) | (with_reducible assumption) | (with_reducible refine Up.alloc ?_ _) | (with_reducible refine Up.drew ?_) | (with_reducible refine Up.grow ?_ _) | (with_reducible refine Up.setCell ?_ (by (try simp); (try omega)) _))))⟩
        case measure => simp [intOf]; omega
      · obtain ⟨hup, hT6, hZ7, hB13, hg, hP, hQ⟩ := HW.out
        have hjn : j = n := by omega
        have p0 := hP.cell 0; have p1 := hP.cell 1
        have y1 := hQ.cell 1
        have k10 := hB13.cell 0; have k11 := hB13.cell 1; have k12 := hB13.cell 2
        have z1 := hB13.frozen
        have i15 := hB13.inw; have iP := hP.inw; have iQ := hQ.inw
        have n1 := hT.N_max hr'.1 k
        have n2 := hT.N_max hr'.1 (k + n)
        have i5 : IntKind.i64.wrap (T.N r k - T.N r (k + n)) = T.N r k - T.N r (k + n) := IntWalk.i64_in _ (by omega)
        clear hT6 hZ7 hB13 hg hP hQ n1 n2
        have HJ := Lib.hid hjn
        clear hjn
        go_wp2_with fail
        go_region_held3 (fun w' => w'.cell? ⟨w5.heap.size, 0, none⟩ = some (.int .i64 (T.D r k)) ∧ w'.cell? ⟨w5.heap.size, 1, none⟩ = some (.int .i64 (T.N r k)) ∧ w'.cell? ⟨w5.heap.size + 1, 1, none⟩ = some (.int .i64 (T.N r (k + n)))) ((repeat' apply And.intro) <;> go_simp) (fail)
        all_goals
          go_wp2
          refine bodyPost_ret (v := .tuple #[.int .i64 (sickS T Z r k b j), .agg #[.int .i64 0, .int .i64 (T.D r k), .int .i64 (T.N r k - T.N r (k + n))], .int .i64 0]) (by simp [results, Try.results117, go_sem, k10, k11, k12]) rfl ?_
          exact ⟨by rw [HJ.out], (by repeat' (first | (with_reducible exact Up.refl _) | (with_reducible assumption) | (with_reducible refine Up.alloc ?_ _) | (with_reducible refine Up.drew ?_) | (with_reducible refine Up.grow ?_ _) | (with_reducible refine Up.setCell ?_ (by (try simp); (try omega)) _)))⟩
  · go_wp2
    go_loopw [18, 82] (fun s i wr => ∃ (j : Nat), j ≤ n ∧ i = .int .i64 j ∧ s = .int .i64 (sickS T Z r k b j) ∧ Hid (SickAt w wr w.heap.size B1 B2 g (w5.heap.size + 1) (w5.heap.size) #[.int .i64 T.first, .slice A T.n c] #[.int .i64 Z.first, .slice A2 Z.n c2] #[.int .i64 (T.D r k), .int .i64 (T.N r k), .int .i64 (T.C r k), .int .i64 (T.M r k)] #[.int .i64 (T.D r (k + n)), .int .i64 (T.N r (k + n)), .int .i64 (T.C r (k + n)), .int .i64 (T.M r (k + n))] cs)) (fun _ i _ => n - (intOf i).toNat)
    case atStart => exact ⟨0, by omega, rfl, rfl, Lib.hid ⟨(by repeat' (first | (with_reducible exact Up.refl _) | (with_reducible assumption) | (with_reducible refine Up.alloc ?_ _) | (with_reducible refine Up.drew ?_) | (with_reducible refine Up.grow ?_ _) | (with_reducible refine Up.setCell ?_ (by (try simp); (try omega)) _))), blk_both hT5 _ _, blk_both h14 _ _, blk_both h15 _ _, blk_both hg _ _, blk_second _ _ _ _, blk_first _ _ _ _⟩⟩
    case round =>
      clear hT5 h14 h15 hg iT ig i14 i15 k10 k11 k12 z1 t0 a0 a1 a2 a3 b0 b1 b2 b3
      obtain ⟨j, hj, rfl, rfl, HW⟩ := hrel
      by_cases hlt : j < n
      · obtain ⟨hup, hT6, hZ7, hB13, hg, hP, hQ⟩ := HW.out
        have t0 := hT6.cell 0
        have y0 := hZ7.cell 0; have y1 := hZ7.cell 1
        have p0 := hP.cell 0
        obtain ⟨r0, _, _, _⟩ := row_at hg (HCS.out (k + j) (by omega))
        have iT := hT6.inw; have iZ := hZ7.inw; have iP := hP.inw; have ig := hg.inw
        clear hT6 hZ7 hB13 hg hP hQ
        obtain ⟨a1, a2, a3, a4, a5, a6, a7, a8⟩ := sick_ab hT hZ hr'.1 hd hm1'.1 hm1'.2 j
        have hs := sickS_bd hT hZ hr'.1 hd hm1'.1 hm1'.2 j (by omega)
        have hgb := sickG_bd hT hZ hr'.1 hd hm1'.1 hm1'.2 j
        have hdd := hT.D_bd hr'.1 k
        have E : Hid (sickS T Z r k b (j + 1) = sickS T Z r k b j + up (b * Z.wk (T.first + k + j)) (T.D r (k + j)) (1000 * T.D r k)) := Lib.hid (sickS_succ _)
        have eg : sickG T Z r k b j = up (b * Z.wk (T.first + k + j)) (T.D r (k + j)) (1000 * T.D r k) := rfl
        rw [eg] at hgb
        have HU := Lib.hid (i_Priced (b * Z.wk (T.first + k + j)) (T.D r (k + j)) (1000 * T.D r k) a1 (by omega) a3 (by omega) (by omega) (by omega) (by omega))
        have HWk := Lib.hid (i_Weeks hZ (T.first + k + j))
        have i5 : IntKind.i64.wrap (T.first + k + j) = T.first + k + j := IntWalk.i64_in _ (by omega)
        have i6 : IntKind.i64.wrap (T.first + k + j - T.first) = (k : Int) + j := by rw [IntWalk.i64_in _ (by omega)]; omega
        have i7 : ((k : Int) + j).toNat = k + j := by omega
        have g1 : (0 : Int) ≤ (k : Int) + j := by omega
        have g2 : (k : Int) + j < L := by omega
        have i8 : IntKind.i64.wrap (b * Z.wk (T.first + k + j)) = b * Z.wk (T.first + k + j) := IntWalk.i64_in _ (by omega)
        have i9 : IntKind.i64.wrap (1000 * T.D r k) = 1000 * T.D r k := IntWalk.i64_in _ (by omega)
        clear eg
        generalize up (b * Z.wk (T.first + k + j)) (T.D r (k + j)) (1000 * T.D r k) = U at *
        generalize sickS T Z r k b j = V at *
        have i10 : IntKind.i64.wrap (V + U) = V + U := IntWalk.i64_in _ (by omega)
        clear a1 a2 a3 a4 a5 a6 a7 a8 hdd hs hgb
        go_wp2_with (first | (go_at_call 148; (with_reducible refine (HWk.out _ _ (hz'.up (by repeat' (first | (with_reducible exact Up.refl _) | (with_reducible assumption) | (with_reducible refine Up.alloc ?_ _) | (with_reducible refine Up.drew ?_) | (with_reducible refine Up.grow ?_ _) | (with_reducible refine Up.setCell ?_ (by (try simp); (try omega)) _))))).mono ?_); rintro e w' ⟨rfl, hb⟩; first | (obtain ⟨x, rfl⟩ := Grow.on x hb) | (obtain ⟨x, rfl⟩ := Grow.mk' hb)) | (go_at_call 100; (with_reducible refine (HU.out _).mono ?_); rintro e w' ⟨rfl, hb⟩; first | (obtain ⟨x, rfl⟩ := Grow.on x hb) | (obtain ⟨x, rfl⟩ := Grow.mk' hb)) | (go_at_call 92; (with_reducible refine (s_In _ _ _ _).mono ?_); rintro e w' ⟨rfl, rfl⟩) | (go_at_call 96; (with_reducible refine (i_In _ _ _ _).mono ?_); rintro e w' ⟨rfl, rfl⟩) | (go_at_call 142; (with_reducible refine (s_Rate _ _).mono ?_); rintro e w' ⟨rfl, rfl⟩) | (go_at_call 104; (with_reducible refine (i_Rate _ _).mono ?_); rintro e w' ⟨rfl, rfl⟩) | (go_at_call 132; (with_reducible refine (i_Years _ _).mono ?_); rintro e w' ⟨rfl, rfl⟩) | (go_at_call 98; (with_reducible refine (s_Amount6 _ _).mono ?_); rintro e w' ⟨rfl, rfl⟩) | (go_at_call 108; (with_reducible refine (s_Sum7 _ _).mono ?_); rintro e w' ⟨rfl, rfl⟩) | ((first | with_reducible refine wp_region_in x (by kernel_rfl) (by kernel_rfl) ?_ | with_reducible refine wp_region_here (by kernel_rfl) (by kernel_rfl) ?_); (repeat (go_big_quiet_step ((first | (go_at_call 148; with_reducible exact Ret.grow _ (HWk.out _ _ (hz'.up (by repeat' (first | (with_reducible exact Up.refl _) | (with_reducible assumption) | (with_reducible refine Up.alloc ?_ _) | (with_reducible refine Up.drew ?_) | (with_reducible refine Up.grow ?_ _) | (with_reducible refine Up.setCell ?_ (by (try simp); (try omega)) _)))))) | (go_at_call 100; with_reducible exact Ret.grow _ (HU.out _)) | (go_at_call 92; with_reducible exact Ret.same _ (s_In _ _ _ _)) | (go_at_call 96; with_reducible exact Ret.same _ (i_In _ _ _ _)) | (go_at_call 142; with_reducible exact Ret.same _ (s_Rate _ _)) | (go_at_call 104; with_reducible exact Ret.same _ (i_Rate _ _)) | (go_at_call 132; with_reducible exact Ret.same _ (i_Years _ _)) | (go_at_call 98; with_reducible exact Ret.same _ (s_Amount6 _ _)) | (go_at_call 108; with_reducible exact Ret.same _ (s_Sum7 _ _)))))); refine wpQuiet_nil ?_; intro w' hw'; obtain ⟨x, rfl⟩ := hw'))
        go_roundw
        case rel => exact ⟨j + 1, by omega, by go_num, by rw [E.out], Lib.hid (HW.out.up (by repeat' (first | (with_reducible exact Up.refl _) | (with_reducible assumption) | (with_reducible refine Up.alloc ?_ _) | (with_reducible refine Up.drew ?_) | (with_reducible refine Up.grow ?_ _) | (with_reducible refine Up.setCell ?_ (by (try simp); (try omega)) _))))⟩
        case measure => simp [intOf]; omega
      · obtain ⟨hup, hT6, hZ7, hB13, hg, hP, hQ⟩ := HW.out
        have hjn : j = n := by omega
        have p0 := hP.cell 0; have p1 := hP.cell 1
        have y1 := hQ.cell 1
        have k10 := hB13.cell 0; have k11 := hB13.cell 1; have k12 := hB13.cell 2
        have z1 := hB13.frozen
        have i15 := hB13.inw; have iP := hP.inw; have iQ := hQ.inw
        have n1 := hT.N_max hr'.1 k
        have n2 := hT.N_max hr'.1 (k + n)
        have i5 : IntKind.i64.wrap (T.N r k - T.N r (k + n)) = T.N r k - T.N r (k + n) := IntWalk.i64_in _ (by omega)
        clear hT6 hZ7 hB13 hg hP hQ n1 n2
        have HJ := Lib.hid hjn
        clear hjn
        go_wp2_with fail
        go_region_held3 (fun w' => w'.cell? ⟨w5.heap.size + 1, 0, none⟩ = some (.int .i64 (T.D r k)) ∧ w'.cell? ⟨w5.heap.size + 1, 1, none⟩ = some (.int .i64 (T.N r k)) ∧ w'.cell? ⟨w5.heap.size, 1, none⟩ = some (.int .i64 (T.N r (k + n)))) ((repeat' apply And.intro) <;> go_simp) (fail)
        all_goals
          go_wp2
          refine bodyPost_ret (v := .tuple #[.int .i64 (sickS T Z r k b j), .agg #[.int .i64 0, .int .i64 (T.D r k), .int .i64 (T.N r k - T.N r (k + n))], .int .i64 0]) (by simp [results, Try.results117, go_sem, k10, k11, k12]) rfl ?_
          exact ⟨by rw [HJ.out], (by repeat' (first | (with_reducible exact Up.refl _) | (with_reducible assumption) | (with_reducible refine Up.alloc ?_ _) | (with_reducible refine Up.drew ?_) | (with_reducible refine Up.grow ?_ _) | (with_reducible refine Up.setCell ?_ (by (try simp); (try omega)) _)))⟩
end Go.Proofs.Ytegabpilmjicgaa
