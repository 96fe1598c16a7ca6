/- Contracts of the program's policies: IsBasis, IsPolicy, premiums, duration. Condition: the slice reads as the table's numbers. -/
import Derived.Test.YtdeoampkbbbleaaPol
import Derived.Test.YtdeoampkbbbleaaI07b
import Derived.Test.YtdeoampkbbbleaaICols
import Derived.Test.YtdeoampkbbbleaaNumP
import Derived.Test.YtdeoampkbbbleaaPureR
namespace Go.Proofs.Ytdeoampkbbbleaa
open Go.RowKit Pu

theorem i_IsB (T : Tab) (r : Int) (b : Bool) (hb : (T.okB && inR r 0 200) = b) (v : Value) (w : World) (hv : BasAt w T r v) : Calls Try.prog 97 #[v] w (Ret w (.bool b)) := by
  (have hv' := hv; obtain ⟨A, c, rfl, hc, hm, hbig, hI⟩ := hv; have ht : TabAt w T (.agg #[.int .i64 T.first, .slice A T.n c]) := ⟨A, c, rfl, hc, hm, hbig, hI⟩)
  by_cases h1 : T.okB = true
  case neg =>
    have h1 := Bool.eq_false_iff.2 h1
    rw [h1, Bool.false_and] at hb; subst hb
    have HT := Lib.hid (i_Valid T false h1)
    clear h1
    go_enter Try.func97, Try.ntmps97
    go_wp2_with (first | (go_at_call 74; (with_reducible refine (HT.out _ _ (ht.up (by repeat' (first | (with_reducible exact Up.refl _) | (with_reducible assumption) | (with_reducible refine Up.alloc ?_ _) | (with_reducible refine Up.drew ?_) | (with_reducible refine Up.grow ?_ _) | (with_reducible refine Up.setCell ?_ (by (try simp); (try omega)) _))))).mono ?_); rintro e w' ⟨rfl, hb⟩; first | (obtain ⟨x, rfl⟩ := Grow.on x hb) | (obtain ⟨x, rfl⟩ := Grow.mk' hb)) | (go_at_call 142; (with_reducible refine (s_In _ _ _ _).mono ?_); rintro e w' ⟨rfl, rfl⟩) | (go_at_call 186; (with_reducible refine (i_In _ _ _ _).mono ?_); rintro e w' ⟨rfl, rfl⟩) | (go_at_call 222; (with_reducible refine (s_Rate _ _).mono ?_); rintro e w' ⟨rfl, rfl⟩) | (go_at_call 165; (with_reducible refine (i_Rate _ _).mono ?_); rintro e w' ⟨rfl, rfl⟩) | (go_at_call 262; (with_reducible refine (i_Years _ _).mono ?_); rintro e w' ⟨rfl, rfl⟩) | (go_at_call 227; (with_reducible refine (s_Amount6 _ _).mono ?_); rintro e w' ⟨rfl, rfl⟩) | (go_at_call 236; (with_reducible refine (s_Sum7 _ _).mono ?_); rintro e w' ⟨rfl, rfl⟩) | ((first | with_reducible refine wp_region_in x (by kernel_rfl) (by kernel_rfl) ?_ | with_reducible refine wp_region_here (by kernel_rfl) (by kernel_rfl) ?_); (repeat (go_big_quiet_step ((first | (go_at_call 74; with_reducible exact Ret.grow _ (HT.out _ _ (ht.up (by repeat' (first | (with_reducible exact Up.refl _) | (with_reducible assumption) | (with_reducible refine Up.alloc ?_ _) | (with_reducible refine Up.drew ?_) | (with_reducible refine Up.grow ?_ _) | (with_reducible refine Up.setCell ?_ (by (try simp); (try omega)) _)))))) | (go_at_call 142; with_reducible exact Ret.same _ (s_In _ _ _ _)) | (go_at_call 186; with_reducible exact Ret.same _ (i_In _ _ _ _)) | (go_at_call 222; with_reducible exact Ret.same _ (s_Rate _ _)) | (go_at_call 165; with_reducible exact Ret.same _ (i_Rate _ _)) | (go_at_call 262; with_reducible exact Ret.same _ (i_Years _ _)) | (go_at_call 227; with_reducible exact Ret.same _ (s_Amount6 _ _)) | (go_at_call 236; with_reducible exact Ret.same _ (s_Sum7 _ _)))))); refine wpQuiet_nil ?_; intro w' hw'; obtain ⟨x, rfl⟩ := hw'))
    go_ret
    exact ⟨rfl, (by repeat' (first | (with_reducible exact Up.refl _) | (with_reducible assumption) | (with_reducible refine Up.alloc ?_ _) | (with_reducible refine Up.drew ?_) | (with_reducible refine Up.grow ?_ _) | (with_reducible refine Up.setCell ?_ (by (try simp); (try omega)) _)))⟩
  rw [h1, Bool.true_and] at hb
  have HT := Lib.hid (i_Valid T true h1)
  have HBB := Lib.hid hb
  clear hb
  clear h1
  go_enter Try.func97, Try.ntmps97
  go_wp2_with (first | (go_at_call 74; (with_reducible refine (HT.out _ _ (ht.up (by repeat' (first | (with_reducible exact Up.refl _) | (with_reducible assumption) | (with_reducible refine Up.alloc ?_ _) | (with_reducible refine Up.drew ?_) | (with_reducible refine Up.grow ?_ _) | (with_reducible refine Up.setCell ?_ (by (try simp); (try omega)) _))))).mono ?_); rintro e w' ⟨rfl, hb⟩; first | (obtain ⟨x, rfl⟩ := Grow.on x hb) | (obtain ⟨x, rfl⟩ := Grow.mk' hb)) | (go_at_call 142; (with_reducible refine (s_In _ _ _ _).mono ?_); rintro e w' ⟨rfl, rfl⟩) | (go_at_call 186; (with_reducible refine (i_In _ _ _ _).mono ?_); rintro e w' ⟨rfl, rfl⟩) | (go_at_call 222; (with_reducible refine (s_Rate _ _).mono ?_); rintro e w' ⟨rfl, rfl⟩) | (go_at_call 165; (with_reducible refine (i_Rate _ _).mono ?_); rintro e w' ⟨rfl, rfl⟩) | (go_at_call 262; (with_reducible refine (i_Years _ _).mono ?_); rintro e w' ⟨rfl, rfl⟩) | (go_at_call 227; (with_reducible refine (s_Amount6 _ _).mono ?_); rintro e w' ⟨rfl, rfl⟩) | (go_at_call 236; (with_reducible refine (s_Sum7 _ _).mono ?_); rintro e w' ⟨rfl, rfl⟩) | ((first | with_reducible refine wp_region_in x (by kernel_rfl) (by kernel_rfl) ?_ | with_reducible refine wp_region_here (by kernel_rfl) (by kernel_rfl) ?_); (repeat (go_big_quiet_step ((first | (go_at_call 74; with_reducible exact Ret.grow _ (HT.out _ _ (ht.up (by repeat' (first | (with_reducible exact Up.refl _) | (with_reducible assumption) | (with_reducible refine Up.alloc ?_ _) | (with_reducible refine Up.drew ?_) | (with_reducible refine Up.grow ?_ _) | (with_reducible refine Up.setCell ?_ (by (try simp); (try omega)) _)))))) | (go_at_call 142; with_reducible exact Ret.same _ (s_In _ _ _ _)) | (go_at_call 186; with_reducible exact Ret.same _ (i_In _ _ _ _)) | (go_at_call 222; with_reducible exact Ret.same _ (s_Rate _ _)) | (go_at_call 165; with_reducible exact Ret.same _ (i_Rate _ _)) | (go_at_call 262; with_reducible exact Ret.same _ (i_Years _ _)) | (go_at_call 227; with_reducible exact Ret.same _ (s_Amount6 _ _)) | (go_at_call 236; with_reducible exact Ret.same _ (s_Sum7 _ _)))))); refine wpQuiet_nil ?_; intro w' hw'; obtain ⟨x, rfl⟩ := hw'))
  go_ret
  exact ⟨ret_bool HBB.out, (by repeat' (first | (with_reducible exact Up.refl _) | (with_reducible assumption) | (with_reducible refine Up.alloc ?_ _) | (with_reducible refine Up.drew ?_) | (with_reducible refine Up.grow ?_ _) | (with_reducible refine Up.setCell ?_ (by (try simp); (try omega)) _)))⟩
set_option maxRecDepth 100000 in
theorem i_At {T : Tab} (hT : T.Ok) {r : Int} (k : Nat) (hk : T.first + k ≤ 150) (v lv : Value) (w : World) (hv : BasAt w T r v) (hl : ColsAt w lv T r) :
    Calls Try.prog 209 #[v, lv, .int .i64 (T.first + k)] w (Ret w (colV T r k)) := by
  (have hv' := hv; obtain ⟨A, c, rfl, hc, hm, hbig, hI⟩ := hv; have ht : TabAt w T (.agg #[.int .i64 T.first, .slice A T.n c]) := ⟨A, c, rfl, hc, hm, hbig, hI⟩)
  have q1 := hT.lo; have q2 := hT.hi
  obtain ⟨g, cs, rfl, hg, hcs⟩ := hl
  obtain ⟨a0, a1, a2, a3⟩ := row_at hg (hcs k (by omega))
  have ig := hg.inw
  have i1 : IntKind.i64.wrap (T.first + k - T.first) = k := by rw [IntWalk.i64_in _ (by omega)]; omega
  obtain ⟨L, hL⟩ : ∃ L : Nat, (151 - T.first).toNat = L := ⟨_, rfl⟩
  rw [hL]
  have hlt : (k : Int) < L := by omega
  have h0 : (0 : Int) ≤ k := by omega
  clear hcs hL hk
  unfold colV
  go_enter Try.func209, Try.ntmps209
  go_wp2_with ((first | with_reducible refine wp_region_in x (by kernel_rfl) (by kernel_rfl) ?_ | with_reducible refine wp_region_here (by kernel_rfl) (by kernel_rfl) ?_); (repeat (go_big_quiet_step ((fail)))); refine wpQuiet_nil ?_; intro w' hw'; obtain ⟨x, rfl⟩ := hw')
  refine bodyPost_ret (v := .agg #[.int .i64 (T.D r k), .int .i64 (T.N r k), .int .i64 (T.C r k), .int .i64 (T.M r k)]) (by simp [results, Try.results209, go_sem]) rfl ⟨rfl, (by repeat' (first | (with_reducible exact Up.refl _) | (with_reducible assumption) | (with_reducible refine Up.alloc ?_ _) | (with_reducible refine Up.drew ?_) | (with_reducible refine Up.grow ?_ _) | (with_reducible refine Up.setCell ?_ (by (try simp); (try omega)) _)))⟩
theorem fld_cols (a b c d : Value) (w : World) : (Instr.field 80 (.agg #[a, b, c, d]) 0).run Try.prog w = .ok a w := by kernel_rfl
attribute [go_sem] fld_cols
theorem i_IsPolA (T : Tab) (r kind age n m ld : Int) (hb : (T.okB && inR r 0 200) = false) (v : Value) (w : World) (hv : BasAt w T r v) : Calls Try.prog 96 #[v, .agg #[.int .i64 (kind), .int .i64 (age), .int .i64 (n), .int .i64 (m), .int .i64 (ld)]] w (Ret w (.bool false)) := by
  (have hv' := hv; obtain ⟨A, c, rfl, hc, hm, hbig, hI⟩ := hv; have ht : TabAt w T (.agg #[.int .i64 T.first, .slice A T.n c]) := ⟨A, c, rfl, hc, hm, hbig, hI⟩)
  have HB := Lib.hid (i_IsB T r false hb)
  clear hb
  go_enter Try.func96, Try.ntmps96
  go_wp2_with (first | (go_at_call 97; (with_reducible refine (HB.out _ _ (hv'.up (by repeat' (first | (with_reducible exact Up.refl _) | (with_reducible assumption) | (with_reducible refine Up.alloc ?_ _) | (with_reducible refine Up.drew ?_) | (with_reducible refine Up.grow ?_ _) | (with_reducible refine Up.setCell ?_ (by (try simp); (try omega)) _))))).mono ?_); rintro e w' ⟨rfl, hb⟩; first | (obtain ⟨x, rfl⟩ := Grow.on x hb) | (obtain ⟨x, rfl⟩ := Grow.mk' hb)) | (go_at_call 142; (with_reducible refine (s_In _ _ _ _).mono ?_); rintro e w' ⟨rfl, rfl⟩) | (go_at_call 186; (with_reducible refine (i_In _ _ _ _).mono ?_); rintro e w' ⟨rfl, rfl⟩) | (go_at_call 222; (with_reducible refine (s_Rate _ _).mono ?_); rintro e w' ⟨rfl, rfl⟩) | (go_at_call 165; (with_reducible refine (i_Rate _ _).mono ?_); rintro e w' ⟨rfl, rfl⟩) | (go_at_call 262; (with_reducible refine (i_Years _ _).mono ?_); rintro e w' ⟨rfl, rfl⟩) | (go_at_call 227; (with_reducible refine (s_Amount6 _ _).mono ?_); rintro e w' ⟨rfl, rfl⟩) | (go_at_call 236; (with_reducible refine (s_Sum7 _ _).mono ?_); rintro e w' ⟨rfl, rfl⟩) | ((first | with_reducible refine wp_region_in x (by kernel_rfl) (by kernel_rfl) ?_ | with_reducible refine wp_region_here (by kernel_rfl) (by kernel_rfl) ?_); (repeat (go_big_quiet_step ((first | (go_at_call 97; with_reducible exact Ret.grow _ (HB.out _ _ (hv'.up (by repeat' (first | (with_reducible exact Up.refl _) | (with_reducible assumption) | (with_reducible refine Up.alloc ?_ _) | (with_reducible refine Up.drew ?_) | (with_reducible refine Up.grow ?_ _) | (with_reducible refine Up.setCell ?_ (by (try simp); (try omega)) _)))))) | (go_at_call 142; with_reducible exact Ret.same _ (s_In _ _ _ _)) | (go_at_call 186; with_reducible exact Ret.same _ (i_In _ _ _ _)) | (go_at_call 222; with_reducible exact Ret.same _ (s_Rate _ _)) | (go_at_call 165; with_reducible exact Ret.same _ (i_Rate _ _)) | (go_at_call 262; with_reducible exact Ret.same _ (i_Years _ _)) | (go_at_call 227; with_reducible exact Ret.same _ (s_Amount6 _ _)) | (go_at_call 236; with_reducible exact Ret.same _ (s_Sum7 _ _)))))); refine wpQuiet_nil ?_; intro w' hw'; obtain ⟨x, rfl⟩ := hw'))
  go_ret
  exact ⟨rfl, (by repeat' (first | (with_reducible exact Up.refl _) | (with_reducible assumption) | (with_reducible refine Up.alloc ?_ _) | (with_reducible refine Up.drew ?_) | (with_reducible refine Up.grow ?_ _) | (with_reducible refine Up.setCell ?_ (by (try simp); (try omega)) _)))⟩
theorem i_IsPolB (T : Tab) (r kind age n m ld : Int) (h0 : 0 ≤ T.first) (hb : (T.okB && inR r 0 200) = true) (has : asB T r kind age n m = false) (v : Value) (w : World) (hv : BasAt w T r v) : Calls Try.prog 96 #[v, .agg #[.int .i64 (kind), .int .i64 (age), .int .i64 (n), .int .i64 (m), .int .i64 (ld)]] w (Ret w (.bool false)) := by
  (have hv' := hv; obtain ⟨A, c, rfl, hc, hm, hbig, hI⟩ := hv; have ht : TabAt w T (.agg #[.int .i64 T.first, .slice A T.n c]) := ⟨A, c, rfl, hc, hm, hbig, hI⟩)
  have HB := Lib.hid (i_IsB T r true hb)
  have HA := i_IsA T h0 r kind age n m
  rw [has] at HA
  replace HA := Lib.hid HA
  clear hb has
  go_enter Try.func96, Try.ntmps96
  go_wp2_with (first | (go_at_call 97; (with_reducible refine (HB.out _ _ (hv'.up (by repeat' (first | (with_reducible exact Up.refl _) | (with_reducible assumption) | (with_reducible refine Up.alloc ?_ _) | (with_reducible refine Up.drew ?_) | (with_reducible refine Up.grow ?_ _) | (with_reducible refine Up.setCell ?_ (by (try simp); (try omega)) _))))).mono ?_); rintro e w' ⟨rfl, hb⟩; first | (obtain ⟨x, rfl⟩ := Grow.on x hb) | (obtain ⟨x, rfl⟩ := Grow.mk' hb)) | (go_at_call 220; (with_reducible refine (HA.out _ _ (ht.up (by repeat' (first | (with_reducible exact Up.refl _) | (with_reducible assumption) | (with_reducible refine Up.alloc ?_ _) | (with_reducible refine Up.drew ?_) | (with_reducible refine Up.grow ?_ _) | (with_reducible refine Up.setCell ?_ (by (try simp); (try omega)) _))))).mono ?_); rintro e w' ⟨rfl, hb⟩; first | (obtain ⟨x, rfl⟩ := Grow.on x hb) | (obtain ⟨x, rfl⟩ := Grow.mk' hb)) | (go_at_call 142; (with_reducible refine (s_In _ _ _ _).mono ?_); rintro e w' ⟨rfl, rfl⟩) | (go_at_call 186; (with_reducible refine (i_In _ _ _ _).mono ?_); rintro e w' ⟨rfl, rfl⟩) | (go_at_call 222; (with_reducible refine (s_Rate _ _).mono ?_); rintro e w' ⟨rfl, rfl⟩) | (go_at_call 165; (with_reducible refine (i_Rate _ _).mono ?_); rintro e w' ⟨rfl, rfl⟩) | (go_at_call 262; (with_reducible refine (i_Years _ _).mono ?_); rintro e w' ⟨rfl, rfl⟩) | (go_at_call 227; (with_reducible refine (s_Amount6 _ _).mono ?_); rintro e w' ⟨rfl, rfl⟩) | (go_at_call 236; (with_reducible refine (s_Sum7 _ _).mono ?_); rintro e w' ⟨rfl, rfl⟩) | ((first | with_reducible refine wp_region_in x (by kernel_rfl) (by kernel_rfl) ?_ | with_reducible refine wp_region_here (by kernel_rfl) (by kernel_rfl) ?_); (repeat (go_big_quiet_step ((first | (go_at_call 97; with_reducible exact Ret.grow _ (HB.out _ _ (hv'.up (by repeat' (first | (with_reducible exact Up.refl _) | (with_reducible assumption) | (with_reducible refine Up.alloc ?_ _) | (with_reducible refine Up.drew ?_) | (with_reducible refine Up.grow ?_ _) | (with_reducible refine Up.setCell ?_ (by (try simp); (try omega)) _)))))) | (go_at_call 220; with_reducible exact Ret.grow _ (HA.out _ _ (ht.up (by repeat' (first | (with_reducible exact Up.refl _) | (with_reducible assumption) | (with_reducible refine Up.alloc ?_ _) | (with_reducible refine Up.drew ?_) | (with_reducible refine Up.grow ?_ _) | (with_reducible refine Up.setCell ?_ (by (try simp); (try omega)) _)))))) | (go_at_call 142; with_reducible exact Ret.same _ (s_In _ _ _ _)) | (go_at_call 186; with_reducible exact Ret.same _ (i_In _ _ _ _)) | (go_at_call 222; with_reducible exact Ret.same _ (s_Rate _ _)) | (go_at_call 165; with_reducible exact Ret.same _ (i_Rate _ _)) | (go_at_call 262; with_reducible exact Ret.same _ (i_Years _ _)) | (go_at_call 227; with_reducible exact Ret.same _ (s_Amount6 _ _)) | (go_at_call 236; with_reducible exact Ret.same _ (s_Sum7 _ _)))))); refine wpQuiet_nil ?_; intro w' hw'; obtain ⟨x, rfl⟩ := hw'))
  go_ret
  exact ⟨rfl, (by repeat' (first | (with_reducible exact Up.refl _) | (with_reducible assumption) | (with_reducible refine Up.alloc ?_ _) | (with_reducible refine Up.drew ?_) | (with_reducible refine Up.grow ?_ _) | (with_reducible refine Up.setCell ?_ (by (try simp); (try omega)) _)))⟩
theorem i_IsPolC (T : Tab) (r kind age n m ld : Int) (h0 : 0 ≤ T.first) (hb : (T.okB && inR r 0 200) = true) (has : asB T r kind age n m = true) (hl : inR ld 0 1000 = false) (v : Value) (w : World) (hv : BasAt w T r v) : Calls Try.prog 96 #[v, .agg #[.int .i64 (kind), .int .i64 (age), .int .i64 (n), .int .i64 (m), .int .i64 (ld)]] w (Ret w (.bool false)) := by
  (have hv' := hv; obtain ⟨A, c, rfl, hc, hm, hbig, hI⟩ := hv; have ht : TabAt w T (.agg #[.int .i64 T.first, .slice A T.n c]) := ⟨A, c, rfl, hc, hm, hbig, hI⟩)
  have HB := Lib.hid (i_IsB T r true hb)
  have HA := i_IsA T h0 r kind age n m
  rw [has] at HA
  replace HA := Lib.hid HA
  clear hb has
  go_enter Try.func96, Try.ntmps96
  go_wp2_with (first | (go_at_call 97; (with_reducible refine (HB.out _ _ (hv'.up (by repeat' (first | (with_reducible exact Up.refl _) | (with_reducible assumption) | (with_reducible refine Up.alloc ?_ _) | (with_reducible refine Up.drew ?_) | (with_reducible refine Up.grow ?_ _) | (with_reducible refine Up.setCell ?_ (by (try simp); (try omega)) _))))).mono ?_); rintro e w' ⟨rfl, hb⟩; first | (obtain ⟨x, rfl⟩ := Grow.on x hb) | (obtain ⟨x, rfl⟩ := Grow.mk' hb)) | (go_at_call 220; (with_reducible refine (HA.out _ _ (ht.up (by repeat' (first | (with_reducible exact Up.refl _) | (with_reducible assumption) | (with_reducible refine Up.alloc ?_ _) | (with_reducible refine Up.drew ?_) | (with_reducible refine Up.grow ?_ _) | (with_reducible refine Up.setCell ?_ (by (try simp); (try omega)) _))))).mono ?_); rintro e w' ⟨rfl, hb⟩; first | (obtain ⟨x, rfl⟩ := Grow.on x hb) | (obtain ⟨x, rfl⟩ := Grow.mk' hb)) | (go_at_call 142; (with_reducible refine (s_In _ _ _ _).mono ?_); rintro e w' ⟨rfl, rfl⟩) | (go_at_call 186; (with_reducible refine (i_In _ _ _ _).mono ?_); rintro e w' ⟨rfl, rfl⟩) | (go_at_call 222; (with_reducible refine (s_Rate _ _).mono ?_); rintro e w' ⟨rfl, rfl⟩) | (go_at_call 165; (with_reducible refine (i_Rate _ _).mono ?_); rintro e w' ⟨rfl, rfl⟩) | (go_at_call 262; (with_reducible refine (i_Years _ _).mono ?_); rintro e w' ⟨rfl, rfl⟩) | (go_at_call 227; (with_reducible refine (s_Amount6 _ _).mono ?_); rintro e w' ⟨rfl, rfl⟩) | (go_at_call 236; (with_reducible refine (s_Sum7 _ _).mono ?_); rintro e w' ⟨rfl, rfl⟩) | ((first | with_reducible refine wp_region_in x (by kernel_rfl) (by kernel_rfl) ?_ | with_reducible refine wp_region_here (by kernel_rfl) (by kernel_rfl) ?_); (repeat (go_big_quiet_step ((first | (go_at_call 97; with_reducible exact Ret.grow _ (HB.out _ _ (hv'.up (by repeat' (first | (with_reducible exact Up.refl _) | (with_reducible assumption) | (with_reducible refine Up.alloc ?_ _) | (with_reducible refine Up.drew ?_) | (with_reducible refine Up.grow ?_ _) | (with_reducible refine Up.setCell ?_ (by (try simp); (try omega)) _)))))) | (go_at_call 220; with_reducible exact Ret.grow _ (HA.out _ _ (ht.up (by repeat' (first | (with_reducible exact Up.refl _) | (with_reducible assumption) | (with_reducible refine Up.alloc ?_ _) | (with_reducible refine Up.drew ?_) | (with_reducible refine Up.grow ?_ _) | (with_reducible refine Up.setCell ?_ (by (try simp); (try omega)) _)))))) | (go_at_call 142; with_reducible exact Ret.same _ (s_In _ _ _ _)) | (go_at_call 186; with_reducible exact Ret.same _ (i_In _ _ _ _)) | (go_at_call 222; with_reducible exact Ret.same _ (s_Rate _ _)) | (go_at_call 165; with_reducible exact Ret.same _ (i_Rate _ _)) | (go_at_call 262; with_reducible exact Ret.same _ (i_Years _ _)) | (go_at_call 227; with_reducible exact Ret.same _ (s_Amount6 _ _)) | (go_at_call 236; with_reducible exact Ret.same _ (s_Sum7 _ _)))))); refine wpQuiet_nil ?_; intro w' hw'; obtain ⟨x, rfl⟩ := hw'))
  go_ret
  exact ⟨rfl, (by repeat' (first | (with_reducible exact Up.refl _) | (with_reducible assumption) | (with_reducible refine Up.alloc ?_ _) | (with_reducible refine Up.drew ?_) | (with_reducible refine Up.grow ?_ _) | (with_reducible refine Up.setCell ?_ (by (try simp); (try omega)) _)))⟩
set_option maxRecDepth 100000 in
set_option maxHeartbeats 2000000 in
theorem i_IsPolD (T : Tab) (hT : T.Ok) (r kind m ld : Int) (k n L : Nat) (hLn : (n = 0 ∧ L = 1) ∨ (1 ≤ n ∧ L = n)) (b : Bool) (hb : (T.okB && inR r 0 200) = true) (has : asB T r kind (T.first + k) n m = true) (hl : inR ld 0 1000 = true) (hn : T.first + k + n ≤ 150) (hn2 : n ≤ 120) (hk0 : T.first + k ≤ 150)
    (hD : b = true ↔ ∀ j : Nat, j < L → T.D r (k + j) ≠ 0) (v : Value) (w : World) (hv : BasAt w T r v) : Calls Try.prog 96 #[v, .agg #[.int .i64 (kind), .int .i64 (T.first + k), .int .i64 (n), .int .i64 (m), .int .i64 (ld)]] w (Ret w (.bool b)) := by
  (have hv' := hv; obtain ⟨A, c, rfl, hc, hm, hbig, hI⟩ := hv; have ht : TabAt w T (.agg #[.int .i64 T.first, .slice A T.n c]) := ⟨A, c, rfl, hc, hm, hbig, hI⟩)
  have h0 := hT.lo
  have hr := inR_true.1 (show inR r 0 200 = true by simp at hb; exact hb.2)
  have HB := Lib.hid (i_IsB T r true hb)
  have HA := i_IsA T h0 r kind (T.first + k) n m
  rw [has] at HA
  replace HA := Lib.hid HA
  have HC := Lib.hid (i_Cols hT hr.1 hr.2)
  have HX (j : Nat) (hj : j < L) : ∀ v lv w, BasAt w T r v → ColsAt w lv T r → Calls Try.prog 209 #[v, lv, .int .i64 (T.first + k + j)] w (Ret w (.agg #[.int .i64 (T.D r (k + j)), .int .i64 (T.N r (k + j)), .int .i64 (T.C r (k + j)), .int .i64 (T.M r (k + j))])) := fun v lv w h1 h2 => by
    have h := i_At hT (r := r) (k + j) (by omega) v lv w h1 h2
    rwa [show T.first + ((k + j : Nat) : Int) = T.first + k + j from by omega] at h
  replace HX := Lib.hid HX
  replace hD := Lib.hid hD
  have hmax : max (1 : Int) n = L := by omega
  have HLn := Lib.hid hLn
  clear hb has hLn
  go_enter Try.func96, Try.ntmps96
  go_wp2_with (first | (go_at_call 197; ((with_reducible refine (HC.out _ _ (ht.up (by repeat' (first | (with_reducible exact Up.refl _) | (with_reducible assumption) | (with_reducible refine Up.alloc ?_ _) | (with_reducible refine Up.drew ?_) | (with_reducible refine Up.grow ?_ _) | (with_reducible refine Up.setCell ?_ (by (try simp); (try omega)) _))))).mono ?_); rintro e w5 ⟨v5, rfl, hb5, hcol⟩; have hcol2 := hcol; obtain ⟨gb, csb, rfl, _, _⟩ := hcol2; obtain ⟨y, rfl⟩ := Grow.on x hb5)) | (go_at_call 97; (with_reducible refine (HB.out _ _ (hv'.up (by repeat' (first | (with_reducible exact Up.refl _) | (with_reducible assumption) | (with_reducible refine Up.alloc ?_ _) | (with_reducible refine Up.drew ?_) | (with_reducible refine Up.grow ?_ _) | (with_reducible refine Up.setCell ?_ (by (try simp); (try omega)) _))))).mono ?_); rintro e w' ⟨rfl, hb⟩; first | (obtain ⟨x, rfl⟩ := Grow.on x hb) | (obtain ⟨x, rfl⟩ := Grow.mk' hb)) | (go_at_call 220; (with_reducible refine (HA.out _ _ (ht.up (by repeat' (first | (with_reducible exact Up.refl _) | (with_reducible assumption) | (with_reducible refine Up.alloc ?_ _) | (with_reducible refine Up.drew ?_) | (with_reducible refine Up.grow ?_ _) | (with_reducible refine Up.setCell ?_ (by (try simp); (try omega)) _))))).mono ?_); rintro e w' ⟨rfl, hb⟩; first | (obtain ⟨x, rfl⟩ := Grow.on x hb) | (obtain ⟨x, rfl⟩ := Grow.mk' hb)) | (go_at_call 142; (with_reducible refine (s_In _ _ _ _).mono ?_); rintro e w' ⟨rfl, rfl⟩) | (go_at_call 186; (with_reducible refine (i_In _ _ _ _).mono ?_); rintro e w' ⟨rfl, rfl⟩) | (go_at_call 222; (with_reducible refine (s_Rate _ _).mono ?_); rintro e w' ⟨rfl, rfl⟩) | (go_at_call 165; (with_reducible refine (i_Rate _ _).mono ?_); rintro e w' ⟨rfl, rfl⟩) | (go_at_call 262; (with_reducible refine (i_Years _ _).mono ?_); rintro e w' ⟨rfl, rfl⟩) | (go_at_call 227; (with_reducible refine (s_Amount6 _ _).mono ?_); rintro e w' ⟨rfl, rfl⟩) | (go_at_call 236; (with_reducible refine (s_Sum7 _ _).mono ?_); rintro e w' ⟨rfl, rfl⟩) | ((first | with_reducible refine wp_region_in x (by kernel_rfl) (by kernel_rfl) ?_ | with_reducible refine wp_region_here (by kernel_rfl) (by kernel_rfl) ?_); (repeat (go_big_quiet_step ((first | (go_at_call 97; with_reducible exact Ret.grow _ (HB.out _ _ (hv'.up (by repeat' (first | (with_reducible exact Up.refl _) | (with_reducible assumption) | (with_reducible refine Up.alloc ?_ _) | (with_reducible refine Up.drew ?_) | (with_reducible refine Up.grow ?_ _) | (with_reducible refine Up.setCell ?_ (by (try simp); (try omega)) _)))))) | (go_at_call 220; with_reducible exact Ret.grow _ (HA.out _ _ (ht.up (by repeat' (first | (with_reducible exact Up.refl _) | (with_reducible assumption) | (with_reducible refine Up.alloc ?_ _) | (with_reducible refine Up.drew ?_) | (with_reducible refine Up.grow ?_ _) | (with_reducible refine Up.setCell ?_ (by (try simp); (try omega)) _)))))) | (go_at_call 142; with_reducible exact Ret.same _ (s_In _ _ _ _)) | (go_at_call 186; with_reducible exact Ret.same _ (i_In _ _ _ _)) | (go_at_call 222; with_reducible exact Ret.same _ (s_Rate _ _)) | (go_at_call 165; with_reducible exact Ret.same _ (i_Rate _ _)) | (go_at_call 262; with_reducible exact Ret.same _ (i_Years _ _)) | (go_at_call 227; with_reducible exact Ret.same _ (s_Amount6 _ _)) | (go_at_call 236; with_reducible exact Ret.same _ (s_Sum7 _ _)))))); refine wpQuiet_nil ?_; intro w' hw'; obtain ⟨x, rfl⟩ := hw'))
  obtain ⟨gb, csb, hv5, hg, hcs⟩ := hcol
  have HCS := Lib.hid hcs
  have HV5 := Lib.hid hv5
  clear hcs hv5 hb5
  go_loopw [40] (fun i wr => ∃ (j : Nat) (z : Grow ((w.alloc (.cells #[.int .i64 T.first, .slice A T.n c, .int .i64 r] 33)).alloc (.cells #[.int .i64 (kind), .int .i64 (T.first + k), .int .i64 (n), .int .i64 (m), .int .i64 (ld)] 85))), j ≤ L ∧ i = .int .i64 j ∧ wr = z.to ∧ Hid (∀ j', j' < j → T.D r (k + j') ≠ 0) ∧ Blk z.to gb 80 csb) (fun i _ => L - (intOf i).toNat)
  case atStart => exact ⟨0, y, by omega, rfl, rfl, Lib.hid (fun j' h => absurd h (by omega)), hg⟩
  case round =>
    clear hg
    obtain ⟨j, x, hj, rfl, rfl, HP, hg⟩ := hrel
    by_cases hlt : j < L
    · have HXj := HX.out j hlt
      have hcol : ColsAt x.to _ T r := ⟨gb, csb, HV5.out, hg, HCS.out⟩
      have i1 : IntKind.i64.wrap (T.first + k + j) = T.first + k + j := IntWalk.i64_in _ (by omega)
      by_cases hd : T.D r (k + j) = 0
      · have hbf : b = false := Bool.eq_false_iff.2 fun e => hD.out.1 e j hlt hd
        subst hbf
        rw [hd] at HXj
        replace HXj := Lib.hid HXj
        clear hd
        go_wp2_with (first | (go_at_call 209; (with_reducible refine (HXj.out _ _ _ (hv'.up (by repeat' (first | (with_reducible exact Up.refl _) | (with_reducible assumption) | (with_reducible refine Up.alloc ?_ _) | (with_reducible refine Up.drew ?_) | (with_reducible refine Up.grow ?_ _) | (with_reducible refine Up.setCell ?_ (by (try simp); (try omega)) _)))) (hcol.up (by repeat' (first | (with_reducible exact Up.refl _) | (with_reducible assumption) | (with_reducible refine Up.alloc ?_ _) | (with_reducible refine Up.drew ?_) | (with_reducible refine Up.grow ?_ _) | (with_reducible refine Up.setCell ?_ (by (try simp); (try omega)) _))))).mono ?_); rintro e w' ⟨rfl, hb⟩; first | (obtain ⟨x, rfl⟩ := Grow.on x hb) | (obtain ⟨x, rfl⟩ := Grow.mk' hb)) | (go_at_call 142; (with_reducible refine (s_In _ _ _ _).mono ?_); rintro e w' ⟨rfl, rfl⟩) | (go_at_call 186; (with_reducible refine (i_In _ _ _ _).mono ?_); rintro e w' ⟨rfl, rfl⟩) | (go_at_call 222; (with_reducible refine (s_Rate _ _).mono ?_); rintro e w' ⟨rfl, rfl⟩) | (go_at_call 165; (with_reducible refine (i_Rate _ _).mono ?_); rintro e w' ⟨rfl, rfl⟩) | (go_at_call 262; (with_reducible refine (i_Years _ _).mono ?_); rintro e w' ⟨rfl, rfl⟩) | (go_at_call 227; (with_reducible refine (s_Amount6 _ _).mono ?_); rintro e w' ⟨rfl, rfl⟩) | (go_at_call 236; (with_reducible refine (s_Sum7 _ _).mono ?_); rintro e w' ⟨rfl, rfl⟩) | ((first | with_reducible refine wp_region_in x (by kernel_rfl) (by kernel_rfl) ?_ | with_reducible refine wp_region_here (by kernel_rfl) (by kernel_rfl) ?_); (repeat (go_big_quiet_step ((first | (go_at_call 209; with_reducible exact Ret.grow _ (HXj.out _ _ _ (hv'.up (by repeat' (first | (with_reducible exact Up.refl _) | (with_reducible assumption) | (with_reducible refine Up.alloc ?_ _) | (with_reducible refine Up.drew ?_) | (with_reducible refine Up.grow ?_ _) | (with_reducible refine Up.setCell ?_ (by (try simp); (try omega)) _)))) (hcol.up (by repeat' (first | (with_reducible exact Up.refl _) | (with_reducible assumption) | (with_reducible refine Up.alloc ?_ _) | (with_reducible refine Up.drew ?_) | (with_reducible refine Up.grow ?_ _) | (with_reducible refine Up.setCell ?_ (by (try simp); (try omega)) _)))))) | (go_at_call 142; with_reducible exact Ret.same _ (s_In _ _ _ _)) | (go_at_call 186; with_reducible exact Ret.same _ (i_In _ _ _ _)) | (go_at_call 222; with_reducible exact Ret.same _ (s_Rate _ _)) | (go_at_call 165; with_reducible exact Ret.same _ (i_Rate _ _)) | (go_at_call 262; with_reducible exact Ret.same _ (i_Years _ _)) | (go_at_call 227; with_reducible exact Ret.same _ (s_Amount6 _ _)) | (go_at_call 236; with_reducible exact Ret.same _ (s_Sum7 _ _)))))); refine wpQuiet_nil ?_; intro w' hw'; obtain ⟨x, rfl⟩ := hw'))
        go_ret
        exact ⟨rfl, (by repeat' (first | (with_reducible exact Up.refl _) | (with_reducible assumption) | (with_reducible refine Up.alloc ?_ _) | (with_reducible refine Up.drew ?_) | (with_reducible refine Up.grow ?_ _) | (with_reducible refine Up.setCell ?_ (by (try simp); (try omega)) _)))⟩
      · have HP2 : Hid (∀ j', j' < j + 1 → T.D r (k + j') ≠ 0) := Lib.hid fun j' h => by
          rcases Nat.lt_or_ge j' j with h1 | h1
          · exact HP.out j' h1
          · rw [show j' = j from by omega]; exact hd
        have hd1 : (T.D r (k + j) == 0) = false := by simpa using hd
        generalize T.D r (k + j) = D at *
        generalize T.N r (k + j) = N at *
        generalize T.C r (k + j) = C at *
        generalize T.M r (k + j) = M at *
        replace HXj := Lib.hid HXj
        clear hd
        go_wp2_with (first | (go_at_call 209; (with_reducible refine (HXj.out _ _ _ (hv'.up (by repeat' (first | (with_reducible exact Up.refl _) | (with_reducible assumption) | (with_reducible refine Up.alloc ?_ _) | (with_reducible refine Up.drew ?_) | (with_reducible refine Up.grow ?_ _) | (with_reducible refine Up.setCell ?_ (by (try simp); (try omega)) _)))) (hcol.up (by repeat' (first | (with_reducible exact Up.refl _) | (with_reducible assumption) | (with_reducible refine Up.alloc ?_ _) | (with_reducible refine Up.drew ?_) | (with_reducible refine Up.grow ?_ _) | (with_reducible refine Up.setCell ?_ (by (try simp); (try omega)) _))))).mono ?_); rintro e w' ⟨rfl, hb⟩; first | (obtain ⟨x, rfl⟩ := Grow.on x hb) | (obtain ⟨x, rfl⟩ := Grow.mk' hb)) | (go_at_call 142; (with_reducible refine (s_In _ _ _ _).mono ?_); rintro e w' ⟨rfl, rfl⟩) | (go_at_call 186; (with_reducible refine (i_In _ _ _ _).mono ?_); rintro e w' ⟨rfl, rfl⟩) | (go_at_call 222; (with_reducible refine (s_Rate _ _).mono ?_); rintro e w' ⟨rfl, rfl⟩) | (go_at_call 165; (with_reducible refine (i_Rate _ _).mono ?_); rintro e w' ⟨rfl, rfl⟩) | (go_at_call 262; (with_reducible refine (i_Years _ _).mono ?_); rintro e w' ⟨rfl, rfl⟩) | (go_at_call 227; (with_reducible refine (s_Amount6 _ _).mono ?_); rintro e w' ⟨rfl, rfl⟩) | (go_at_call 236; (with_reducible refine (s_Sum7 _ _).mono ?_); rintro e w' ⟨rfl, rfl⟩) | ((first | with_reducible refine wp_region_in x (by kernel_rfl) (by kernel_rfl) ?_ | with_reducible refine wp_region_here (by kernel_rfl) (by kernel_rfl) ?_); (repeat (go_big_quiet_step ((first | (go_at_call 209; with_reducible exact Ret.grow _ (HXj.out _ _ _ (hv'.up (by repeat' (first | (with_reducible exact Up.refl _) | (with_reducible assumption) | (with_reducible refine Up.alloc ?_ _) | (with_reducible refine Up.drew ?_) | (with_reducible refine Up.grow ?_ _) | (with_reducible refine Up.setCell ?_ (by (try simp); (try omega)) _)))) (hcol.up (by repeat' (first | (with_reducible exact Up.refl _) | (with_reducible assumption) | (with_reducible refine Up.alloc ?_ _) | (with_reducible refine Up.drew ?_) | (with_reducible refine Up.grow ?_ _) | (with_reducible refine Up.setCell ?_ (by (try simp); (try omega)) _)))))) | (go_at_call 142; with_reducible exact Ret.same _ (s_In _ _ _ _)) | (go_at_call 186; with_reducible exact Ret.same _ (i_In _ _ _ _)) | (go_at_call 222; with_reducible exact Ret.same _ (s_Rate _ _)) | (go_at_call 165; with_reducible exact Ret.same _ (i_Rate _ _)) | (go_at_call 262; with_reducible exact Ret.same _ (i_Years _ _)) | (go_at_call 227; with_reducible exact Ret.same _ (s_Amount6 _ _)) | (go_at_call 236; with_reducible exact Ret.same _ (s_Sum7 _ _)))))); refine wpQuiet_nil ?_; intro w' hw'; obtain ⟨x, rfl⟩ := hw'))
        go_roundw
        case rel => exact ⟨j + 1, _, by omega, by go_num, rfl, HP2, hg.up (by repeat' (first | (with_reducible exact Up.refl _) | (with_reducible assumption) | (with_reducible refine Up.alloc ?_ _) | (with_reducible refine Up.drew ?_) | (with_reducible refine Up.grow ?_ _) | (with_reducible refine Up.setCell ?_ (by (try simp); (try omega)) _)))⟩
        case measure => simp [intOf]; omega
    · have hbt : b = true := hD.out.2 fun j' h => HP.out j' (by omega)
      subst hbt
      go_wp2
      go_ret
      exact ⟨rfl, (by repeat' (first | (with_reducible exact Up.refl _) | (with_reducible assumption) | (with_reducible refine Up.alloc ?_ _) | (with_reducible refine Up.drew ?_) | (with_reducible refine Up.grow ?_ _) | (with_reducible refine Up.setCell ?_ (by (try simp); (try omega)) _)))⟩
theorem i_IsPol (T : Tab) (r kind age n m ld : Int) (b : Bool) (hp : polB T r kind age n m ld = b) (v : Value) (w : World) (hv : BasAt w T r v) : Calls Try.prog 96 #[v, .agg #[.int .i64 (kind), .int .i64 (age), .int .i64 (n), .int .i64 (m), .int .i64 (ld)]] w (Ret w (.bool b)) := by
  subst hp
  by_cases hb : (T.okB && inR r 0 200) = true
  case neg =>
    have hb := Bool.eq_false_iff.2 hb
    rw [polB_false (fun h => by
      obtain ⟨hT, h0, h1, _⟩ := code7_ok h.1
      rw [(Tab.okB_iff T).2 hT, inR_true.2 ⟨h0, h1⟩] at hb; cases hb)]
    exact i_IsPolA T r kind age n m ld hb v w hv
  have hT : T.Ok := (Tab.okB_iff T).1 (by simp at hb; exact hb.1)
  have ha := code7_as hT r kind age n m
  by_cases has : asB T r kind age n m = true
  case neg =>
    have has := Bool.eq_false_iff.2 has
    rw [polB_false (fun h => by rw [ha.1 has] at h; omega)]
    exact i_IsPolB T r kind age n m ld hT.lo hb has v w hv
  by_cases hl : inR ld 0 1000 = true
  case neg =>
    rw [polB_false (fun h => hl h.2.1)]
    exact i_IsPolC T r kind age n m ld hT.lo hb has (Bool.eq_false_iff.2 hl) v w hv
  have hs := asB_iff.1 has
  have hf := fits_iff.1 (show fits kind n = true by have := hs.2.1; simp at this; exact this.2)
  obtain ⟨k, rfl⟩ : ∃ k : Nat, age = T.first + k := ⟨(age - T.first).toNat, by omega⟩
  obtain ⟨n, rfl⟩ : ∃ n' : Nat, n = n' := ⟨n.toNat, by omega⟩
  obtain ⟨L, hL⟩ : ∃ L : Nat, (n = 0 ∧ L = 1) ∨ (1 ≤ n ∧ L = n) := by
    by_cases h : n = 0
    · exact ⟨1, Or.inl ⟨h, rfl⟩⟩
    · exact ⟨n, Or.inr ⟨by omega, rfl⟩⟩
  refine i_IsPolD T hT r kind m ld k n L hL _ hb has hl (by omega) (by omega) (by omega) ?_ v w hv
  rw [kk] at ha
  rw [polB_iff, ix_k]
  constructor
  · rintro ⟨h1, _, h3⟩ j hj
    rcases hL with ⟨h4, h5⟩ | ⟨h4, h5⟩
    · rw [show j = 0 from by omega]
      intro h0
      have := ha.2.1 has h0
      omega
    · exact h3 j (by omega)
  · intro h
    refine ⟨ha.2.2 has (h 0 (by omega)), hl, fun j hj => h j (by omega)⟩
section
variable {T : Tab} {r kind : Int} {k n : Nat} {m ld : Int} (h : PK T r kind k n m ld)
include h
theorem Pu.PK.apC : apC T r kind (T.first + k) n m = 0 := h.code
theorem i_Net (v : Value) (w : World) (hv : BasAt w T r v) : Calls Try.prog 216 #[v, .agg #[.int .i64 (kind), .int .i64 (T.first + k), .int .i64 (n), .int .i64 (m), .int .i64 (ld)]] w (Ret w (.int .i64 (T.net r kind k n m))) := by
  (have hv' := hv; obtain ⟨A, c, rfl, hc, hm, hbig, hI⟩ := hv; have ht : TabAt w T (.agg #[.int .i64 T.first, .slice A T.n c]) := ⟨A, c, rfl, hc, hm, hbig, hI⟩)
  have HL : ∀ v w, TabAt w T v → Calls Try.prog 99 #[v, .int .i64 r, .int .i64 kind, .int .i64 (T.first + k), .int .i64 n, .int .i64 m] w (Ret w (.tuple #[.int .i64 (T.net r kind k n m), .int .i64 0])) := fun v w hv => by
    have g := i_LP T r kind (T.first + k) n m v w hv
    rw [h.apC, RetQ_ok] at g
    unfold lpV at g
    rwa [ix_k, Int.toNat_natCast] at g
  replace HL := Lib.hid HL
  generalize T.net r kind k n m = U at *
  go_enter Try.func216, Try.ntmps216
  go_wp2_with (first | (go_at_call 99; (with_reducible refine (HL.out _ _ (ht.up (by repeat' (first | (with_reducible exact Up.refl _) | (with_reducible assumption) | (with_reducible refine Up.alloc ?_ _) | (with_reducible refine Up.drew ?_) | (with_reducible refine Up.grow ?_ _) | (with_reducible refine Up.setCell ?_ (by (try simp); (try omega)) _))))).mono ?_); rintro e w' ⟨rfl, hb⟩; first | (obtain ⟨x, rfl⟩ := Grow.on x hb) | (obtain ⟨x, rfl⟩ := Grow.mk' hb)) | (go_at_call 142; (with_reducible refine (s_In _ _ _ _).mono ?_); rintro e w' ⟨rfl, rfl⟩) | (go_at_call 186; (with_reducible refine (i_In _ _ _ _).mono ?_); rintro e w' ⟨rfl, rfl⟩) | (go_at_call 222; (with_reducible refine (s_Rate _ _).mono ?_); rintro e w' ⟨rfl, rfl⟩) | (go_at_call 165; (with_reducible refine (i_Rate _ _).mono ?_); rintro e w' ⟨rfl, rfl⟩) | (go_at_call 262; (with_reducible refine (i_Years _ _).mono ?_); rintro e w' ⟨rfl, rfl⟩) | (go_at_call 227; (with_reducible refine (s_Amount6 _ _).mono ?_); rintro e w' ⟨rfl, rfl⟩) | (go_at_call 236; (with_reducible refine (s_Sum7 _ _).mono ?_); rintro e w' ⟨rfl, rfl⟩) | ((first | with_reducible refine wp_region_in x (by kernel_rfl) (by kernel_rfl) ?_ | with_reducible refine wp_region_here (by kernel_rfl) (by kernel_rfl) ?_); (repeat (go_big_quiet_step ((first | (go_at_call 99; with_reducible exact Ret.grow _ (HL.out _ _ (ht.up (by repeat' (first | (with_reducible exact Up.refl _) | (with_reducible assumption) | (with_reducible refine Up.alloc ?_ _) | (with_reducible refine Up.drew ?_) | (with_reducible refine Up.grow ?_ _) | (with_reducible refine Up.setCell ?_ (by (try simp); (try omega)) _)))))) | (go_at_call 142; with_reducible exact Ret.same _ (s_In _ _ _ _)) | (go_at_call 186; with_reducible exact Ret.same _ (i_In _ _ _ _)) | (go_at_call 222; with_reducible exact Ret.same _ (s_Rate _ _)) | (go_at_call 165; with_reducible exact Ret.same _ (i_Rate _ _)) | (go_at_call 262; with_reducible exact Ret.same _ (i_Years _ _)) | (go_at_call 227; with_reducible exact Ret.same _ (s_Amount6 _ _)) | (go_at_call 236; with_reducible exact Ret.same _ (s_Sum7 _ _)))))); refine wpQuiet_nil ?_; intro w' hw'; obtain ⟨x, rfl⟩ := hw'))
  go_ret
  exact ⟨rfl, (by repeat' (first | (with_reducible exact Up.refl _) | (with_reducible assumption) | (with_reducible refine Up.alloc ?_ _) | (with_reducible refine Up.drew ?_) | (with_reducible refine Up.grow ?_ _) | (with_reducible refine Up.setCell ?_ (by (try simp); (try omega)) _)))⟩
theorem i_Off (v : Value) (w : World) (hv : BasAt w T r v) : Calls Try.prog 217 #[v, .agg #[.int .i64 (kind), .int .i64 (T.first + k), .int .i64 (n), .int .i64 (m), .int .i64 (ld)]] w (Ret w (.int .i64 (officeV (T.net r kind k n m) ld))) := by
  (have hv' := hv; obtain ⟨A, c, rfl, hc, hm, hbig, hI⟩ := hv; have ht : TabAt w T (.agg #[.int .i64 T.first, .slice A T.n c]) := ⟨A, c, rfl, hc, hm, hbig, hI⟩)
  have HN := Lib.hid (i_Net h)
  have b := h.office_bd
  have b2 := h.net_bd
  have HU := Lib.hid (i_Up01 (T.net r kind k n m * ld) 1000 b.2.2.1 (by omega) (by omega) (by omega))
  have i1 : IntKind.i64.wrap (T.net r kind k n m * ld) = T.net r kind k n m * ld := IntWalk.i64_in _ (by omega)
  unfold officeV at *
  generalize T.net r kind k n m = N at *
  have i2 : IntKind.i64.wrap (N + cdiv (N * ld) 1000) = N + cdiv (N * ld) 1000 := IntWalk.i64_in _ (by omega)
  generalize cdiv (N * ld) 1000 = Q at *
  go_enter Try.func217, Try.ntmps217
  go_wp2_with (first | (go_at_call 216; (with_reducible refine (HN.out _ _ (hv'.up (by repeat' (first | (with_reducible exact Up.refl _) | (with_reducible assumption) | (with_reducible refine Up.alloc ?_ _) | (with_reducible refine Up.drew ?_) | (with_reducible refine Up.grow ?_ _) | (with_reducible refine Up.setCell ?_ (by (try simp); (try omega)) _))))).mono ?_); rintro e w' ⟨rfl, hb⟩; first | (obtain ⟨x, rfl⟩ := Grow.on x hb) | (obtain ⟨x, rfl⟩ := Grow.mk' hb)) | (go_at_call 260; (with_reducible refine (HU.out _).mono ?_); rintro e w' ⟨rfl, rfl⟩) | (go_at_call 142; (with_reducible refine (s_In _ _ _ _).mono ?_); rintro e w' ⟨rfl, rfl⟩) | (go_at_call 186; (with_reducible refine (i_In _ _ _ _).mono ?_); rintro e w' ⟨rfl, rfl⟩) | (go_at_call 222; (with_reducible refine (s_Rate _ _).mono ?_); rintro e w' ⟨rfl, rfl⟩) | (go_at_call 165; (with_reducible refine (i_Rate _ _).mono ?_); rintro e w' ⟨rfl, rfl⟩) | (go_at_call 262; (with_reducible refine (i_Years _ _).mono ?_); rintro e w' ⟨rfl, rfl⟩) | (go_at_call 227; (with_reducible refine (s_Amount6 _ _).mono ?_); rintro e w' ⟨rfl, rfl⟩) | (go_at_call 236; (with_reducible refine (s_Sum7 _ _).mono ?_); rintro e w' ⟨rfl, rfl⟩) | ((first | with_reducible refine wp_region_in x (by kernel_rfl) (by kernel_rfl) ?_ | with_reducible refine wp_region_here (by kernel_rfl) (by kernel_rfl) ?_); (repeat (go_big_quiet_step ((first | (go_at_call 216; with_reducible exact Ret.grow _ (HN.out _ _ (hv'.up (by repeat' (first | (with_reducible exact Up.refl _) | (with_reducible assumption) | (with_reducible refine Up.alloc ?_ _) | (with_reducible refine Up.drew ?_) | (with_reducible refine Up.grow ?_ _) | (with_reducible refine Up.setCell ?_ (by (try simp); (try omega)) _)))))) | (go_at_call 260; with_reducible exact Ret.same _ (HU.out _)) | (go_at_call 142; with_reducible exact Ret.same _ (s_In _ _ _ _)) | (go_at_call 186; with_reducible exact Ret.same _ (i_In _ _ _ _)) | (go_at_call 222; with_reducible exact Ret.same _ (s_Rate _ _)) | (go_at_call 165; with_reducible exact Ret.same _ (i_Rate _ _)) | (go_at_call 262; with_reducible exact Ret.same _ (i_Years _ _)) | (go_at_call 227; with_reducible exact Ret.same _ (s_Amount6 _ _)) | (go_at_call 236; with_reducible exact Ret.same _ (s_Sum7 _ _)))))); refine wpQuiet_nil ?_; intro w' hw'; obtain ⟨x, rfl⟩ := hw'))
  go_ret
  exact ⟨rfl, (by repeat' (first | (with_reducible exact Up.refl _) | (with_reducible assumption) | (with_reducible refine Up.alloc ?_ _) | (with_reducible refine Up.drew ?_) | (with_reducible refine Up.grow ?_ _) | (with_reducible refine Up.setCell ?_ (by (try simp); (try omega)) _)))⟩
theorem i_Dur (v : Value) (w : World) (hv : BasAt w T r v) : Calls Try.prog 154 #[v, .agg #[.int .i64 (kind), .int .i64 (T.first + k), .int .i64 (n), .int .i64 (m), .int .i64 (ld)]] w (Ret w (.int .i64 (T.dur kind k n))) := by
  (have hv' := hv; obtain ⟨A, c, rfl, hc, hm, hbig, hI⟩ := hv; have ht : TabAt w T (.agg #[.int .i64 T.first, .slice A T.n c]) := ⟨A, c, rfl, hc, hm, hbig, hI⟩)
  have HE := Lib.hid (i_End h.hT)
  have q1 := h.k_lt; have q2 := h.hT.lo; have q3 := h.hT.hi; have q4 := h.hT.n120
  unfold Tab.dur
  by_cases hk : kind = 0
  · subst hk
    rw [if_pos rfl]
    have i1 : IntKind.i64.wrap (T.first + T.n - 1 - (T.first + k)) = ((T.n - 1 - k : Nat) : Int) := by rw [IntWalk.i64_in _ (by omega)]; omega
    generalize (T.n - 1 - k : Nat) = U at *
    go_enter Try.func154, Try.ntmps154
    go_wp2_with (first | (go_at_call 248; (with_reducible refine (HE.out _ _ (ht.up (by repeat' (first | (with_reducible exact Up.refl _) | (with_reducible assumption) | (with_reducible refine Up.alloc ?_ _) | (with_reducible refine Up.drew ?_) | (with_reducible refine Up.grow ?_ _) | (with_reducible refine Up.setCell ?_ (by (try simp); (try omega)) _))))).mono ?_); rintro e w' ⟨rfl, hb⟩; first | (obtain ⟨x, rfl⟩ := Grow.on x hb) | (obtain ⟨x, rfl⟩ := Grow.mk' hb)) | (go_at_call 142; (with_reducible refine (s_In _ _ _ _).mono ?_); rintro e w' ⟨rfl, rfl⟩) | (go_at_call 186; (with_reducible refine (i_In _ _ _ _).mono ?_); rintro e w' ⟨rfl, rfl⟩) | (go_at_call 222; (with_reducible refine (s_Rate _ _).mono ?_); rintro e w' ⟨rfl, rfl⟩) | (go_at_call 165; (with_reducible refine (i_Rate _ _).mono ?_); rintro e w' ⟨rfl, rfl⟩) | (go_at_call 262; (with_reducible refine (i_Years _ _).mono ?_); rintro e w' ⟨rfl, rfl⟩) | (go_at_call 227; (with_reducible refine (s_Amount6 _ _).mono ?_); rintro e w' ⟨rfl, rfl⟩) | (go_at_call 236; (with_reducible refine (s_Sum7 _ _).mono ?_); rintro e w' ⟨rfl, rfl⟩) | ((first | with_reducible refine wp_region_in x (by kernel_rfl) (by kernel_rfl) ?_ | with_reducible refine wp_region_here (by kernel_rfl) (by kernel_rfl) ?_); (repeat (go_big_quiet_step ((first | (go_at_call 248; with_reducible exact Ret.grow _ (HE.out _ _ (ht.up (by repeat' (first | (with_reducible exact Up.refl _) | (with_reducible assumption) | (with_reducible refine Up.alloc ?_ _) | (with_reducible refine Up.drew ?_) | (with_reducible refine Up.grow ?_ _) | (with_reducible refine Up.setCell ?_ (by (try simp); (try omega)) _)))))) | (go_at_call 142; with_reducible exact Ret.same _ (s_In _ _ _ _)) | (go_at_call 186; with_reducible exact Ret.same _ (i_In _ _ _ _)) | (go_at_call 222; with_reducible exact Ret.same _ (s_Rate _ _)) | (go_at_call 165; with_reducible exact Ret.same _ (i_Rate _ _)) | (go_at_call 262; with_reducible exact Ret.same _ (i_Years _ _)) | (go_at_call 227; with_reducible exact Ret.same _ (s_Amount6 _ _)) | (go_at_call 236; with_reducible exact Ret.same _ (s_Sum7 _ _)))))); refine wpQuiet_nil ?_; intro w' hw'; obtain ⟨x, rfl⟩ := hw'))
    go_ret
    exact ⟨rfl, (by repeat' (first | (with_reducible exact Up.refl _) | (with_reducible assumption) | (with_reducible refine Up.alloc ?_ _) | (with_reducible refine Up.drew ?_) | (with_reducible refine Up.grow ?_ _) | (with_reducible refine Up.setCell ?_ (by (try simp); (try omega)) _)))⟩
  · rw [if_neg hk]
    have hk1 : (kind == 0) = false := by simpa using hk
    clear hk
    go_enter Try.func154, Try.ntmps154
    go_wp2_with (first | (go_at_call 248; (with_reducible refine (HE.out _ _ (ht.up (by repeat' (first | (with_reducible exact Up.refl _) | (with_reducible assumption) | (with_reducible refine Up.alloc ?_ _) | (with_reducible refine Up.drew ?_) | (with_reducible refine Up.grow ?_ _) | (with_reducible refine Up.setCell ?_ (by (try simp); (try omega)) _))))).mono ?_); rintro e w' ⟨rfl, hb⟩; first | (obtain ⟨x, rfl⟩ := Grow.on x hb) | (obtain ⟨x, rfl⟩ := Grow.mk' hb)) | (go_at_call 142; (with_reducible refine (s_In _ _ _ _).mono ?_); rintro e w' ⟨rfl, rfl⟩) | (go_at_call 186; (with_reducible refine (i_In _ _ _ _).mono ?_); rintro e w' ⟨rfl, rfl⟩) | (go_at_call 222; (with_reducible refine (s_Rate _ _).mono ?_); rintro e w' ⟨rfl, rfl⟩) | (go_at_call 165; (with_reducible refine (i_Rate _ _).mono ?_); rintro e w' ⟨rfl, rfl⟩) | (go_at_call 262; (with_reducible refine (i_Years _ _).mono ?_); rintro e w' ⟨rfl, rfl⟩) | (go_at_call 227; (with_reducible refine (s_Amount6 _ _).mono ?_); rintro e w' ⟨rfl, rfl⟩) | (go_at_call 236; (with_reducible refine (s_Sum7 _ _).mono ?_); rintro e w' ⟨rfl, rfl⟩) | ((first | with_reducible refine wp_region_in x (by kernel_rfl) (by kernel_rfl) ?_ | with_reducible refine wp_region_here (by kernel_rfl) (by kernel_rfl) ?_); (repeat (go_big_quiet_step ((first | (go_at_call 248; with_reducible exact Ret.grow _ (HE.out _ _ (ht.up (by repeat' (first | (with_reducible exact Up.refl _) | (with_reducible assumption) | (with_reducible refine Up.alloc ?_ _) | (with_reducible refine Up.drew ?_) | (with_reducible refine Up.grow ?_ _) | (with_reducible refine Up.setCell ?_ (by (try simp); (try omega)) _)))))) | (go_at_call 142; with_reducible exact Ret.same _ (s_In _ _ _ _)) | (go_at_call 186; with_reducible exact Ret.same _ (i_In _ _ _ _)) | (go_at_call 222; with_reducible exact Ret.same _ (s_Rate _ _)) | (go_at_call 165; with_reducible exact Ret.same _ (i_Rate _ _)) | (go_at_call 262; with_reducible exact Ret.same _ (i_Years _ _)) | (go_at_call 227; with_reducible exact Ret.same _ (s_Amount6 _ _)) | (go_at_call 236; with_reducible exact Ret.same _ (s_Sum7 _ _)))))); refine wpQuiet_nil ?_; intro w' hw'; obtain ⟨x, rfl⟩ := hw'))
    go_ret
    exact ⟨rfl, (by repeat' (first | (with_reducible exact Up.refl _) | (with_reducible assumption) | (with_reducible refine Up.alloc ?_ _) | (with_reducible refine Up.drew ?_) | (with_reducible refine Up.grow ?_ _) | (with_reducible refine Up.setCell ?_ (by (try simp); (try omega)) _)))⟩
set_option maxRecDepth 100000 in
theorem i_Exc (v : Value) (w : World) (hv : BasAt w T r v) : Calls Try.prog 210 #[v, .agg #[.int .i64 (kind), .int .i64 (T.first + k), .int .i64 (n), .int .i64 (m), .int .i64 (ld)]] w (Ret w (.int .i64 (T.gain r kind k n m))) := by
  (have hv' := hv; obtain ⟨A, c, rfl, hc, hm, hbig, hI⟩ := hv; have ht : TabAt w T (.agg #[.int .i64 T.first, .slice A T.n c]) := ⟨A, c, rfl, hc, hm, hbig, hI⟩)
  have HC := Lib.hid (i_ChkPK h.code)
  have m1 := h.m1; have m2 := h.m2
  have b1 := h.base1
  have b2 := h.hT.base_nn h.h0 kind k n
  have t := h.hT.top_bd h.h0 kind k n
  have b5 := lev_q h.hT h.h0 h.d0 (kind := kind) (m := n) (x := m) (by omega) (by omega) h.any
  have HM := Lib.hid (i_Md m (T.top r kind k n) (T.base r kind k n) (by omega) (by omega) (by omega) (by omega) (by omega) (by omega) (by omega))
  have hr := rm_bd (a := m) (b := T.top r kind k n) b1
  rw [h.gain_eq]
  generalize qd m (T.top r kind k n) (T.base r kind k n) = Q at *
  generalize rm m (T.top r kind k n) (T.base r kind k n) = R at *
  generalize T.top r kind k n = N at *
  generalize T.base r kind k n = B at *
  generalize T.D r k = D at *
  clear h b5 t
  by_cases hz : R = 0
  · subst hz
    rw [if_pos rfl]
    go_enter Try.func210, Try.ntmps210
    go_wp2_with (first | (go_at_call 223; (with_reducible refine (HC.out _ _ (ht.up (by repeat' (first | (with_reducible exact Up.refl _) | (with_reducible assumption) | (with_reducible refine Up.alloc ?_ _) | (with_reducible refine Up.drew ?_) | (with_reducible refine Up.grow ?_ _) | (with_reducible refine Up.setCell ?_ (by (try simp); (try omega)) _))))).mono ?_); rintro e w' ⟨rfl, hb⟩; first | (obtain ⟨x, rfl⟩ := Grow.on x hb) | (obtain ⟨x, rfl⟩ := Grow.mk' hb)) | (go_at_call 231; (with_reducible refine (HM.out _).mono ?_); rintro e w' ⟨rfl, hb⟩; first | (obtain ⟨x, rfl⟩ := Grow.on x hb) | (obtain ⟨x, rfl⟩ := Grow.mk' hb)) | (go_at_call 142; (with_reducible refine (s_In _ _ _ _).mono ?_); rintro e w' ⟨rfl, rfl⟩) | (go_at_call 186; (with_reducible refine (i_In _ _ _ _).mono ?_); rintro e w' ⟨rfl, rfl⟩) | (go_at_call 222; (with_reducible refine (s_Rate _ _).mono ?_); rintro e w' ⟨rfl, rfl⟩) | (go_at_call 165; (with_reducible refine (i_Rate _ _).mono ?_); rintro e w' ⟨rfl, rfl⟩) | (go_at_call 262; (with_reducible refine (i_Years _ _).mono ?_); rintro e w' ⟨rfl, rfl⟩) | (go_at_call 227; (with_reducible refine (s_Amount6 _ _).mono ?_); rintro e w' ⟨rfl, rfl⟩) | (go_at_call 236; (with_reducible refine (s_Sum7 _ _).mono ?_); rintro e w' ⟨rfl, rfl⟩) | ((first | with_reducible refine wp_region_in x (by kernel_rfl) (by kernel_rfl) ?_ | with_reducible refine wp_region_here (by kernel_rfl) (by kernel_rfl) ?_); (repeat (go_big_quiet_step ((first | (go_at_call 223; with_reducible exact Ret.grow _ (HC.out _ _ (ht.up (by repeat' (first | (with_reducible exact Up.refl _) | (with_reducible assumption) | (with_reducible refine Up.alloc ?_ _) | (with_reducible refine Up.drew ?_) | (with_reducible refine Up.grow ?_ _) | (with_reducible refine Up.setCell ?_ (by (try simp); (try omega)) _)))))) | (go_at_call 231; with_reducible exact Ret.grow _ (HM.out _)) | (go_at_call 142; with_reducible exact Ret.same _ (s_In _ _ _ _)) | (go_at_call 186; with_reducible exact Ret.same _ (i_In _ _ _ _)) | (go_at_call 222; with_reducible exact Ret.same _ (s_Rate _ _)) | (go_at_call 165; with_reducible exact Ret.same _ (i_Rate _ _)) | (go_at_call 262; with_reducible exact Ret.same _ (i_Years _ _)) | (go_at_call 227; with_reducible exact Ret.same _ (s_Amount6 _ _)) | (go_at_call 236; with_reducible exact Ret.same _ (s_Sum7 _ _)))))); refine wpQuiet_nil ?_; intro w' hw'; obtain ⟨x, rfl⟩ := hw'))
    go_ret
    exact ⟨rfl, (by repeat' (first | (with_reducible exact Up.refl _) | (with_reducible assumption) | (with_reducible refine Up.alloc ?_ _) | (with_reducible refine Up.drew ?_) | (with_reducible refine Up.grow ?_ _) | (with_reducible refine Up.setCell ?_ (by (try simp); (try omega)) _)))⟩
  · rw [if_neg hz]
    have hz1 : (R == 0) = false := by simpa using hz
    have i1 : IntKind.i64.wrap (B - R) = B - R := IntWalk.i64_in _ (by omega)
    clear hz
    go_enter Try.func210, Try.ntmps210
    go_wp2_with (first | (go_at_call 223; (with_reducible refine (HC.out _ _ (ht.up (by repeat' (first | (with_reducible exact Up.refl _) | (with_reducible assumption) | (with_reducible refine Up.alloc ?_ _) | (with_reducible refine Up.drew ?_) | (with_reducible refine Up.grow ?_ _) | (with_reducible refine Up.setCell ?_ (by (try simp); (try omega)) _))))).mono ?_); rintro e w' ⟨rfl, hb⟩; first | (obtain ⟨x, rfl⟩ := Grow.on x hb) | (obtain ⟨x, rfl⟩ := Grow.mk' hb)) | (go_at_call 231; (with_reducible refine (HM.out _).mono ?_); rintro e w' ⟨rfl, hb⟩; first | (obtain ⟨x, rfl⟩ := Grow.on x hb) | (obtain ⟨x, rfl⟩ := Grow.mk' hb)) | (go_at_call 142; (with_reducible refine (s_In _ _ _ _).mono ?_); rintro e w' ⟨rfl, rfl⟩) | (go_at_call 186; (with_reducible refine (i_In _ _ _ _).mono ?_); rintro e w' ⟨rfl, rfl⟩) | (go_at_call 222; (with_reducible refine (s_Rate _ _).mono ?_); rintro e w' ⟨rfl, rfl⟩) | (go_at_call 165; (with_reducible refine (i_Rate _ _).mono ?_); rintro e w' ⟨rfl, rfl⟩) | (go_at_call 262; (with_reducible refine (i_Years _ _).mono ?_); rintro e w' ⟨rfl, rfl⟩) | (go_at_call 227; (with_reducible refine (s_Amount6 _ _).mono ?_); rintro e w' ⟨rfl, rfl⟩) | (go_at_call 236; (with_reducible refine (s_Sum7 _ _).mono ?_); rintro e w' ⟨rfl, rfl⟩) | ((first | with_reducible refine wp_region_in x (by kernel_rfl) (by kernel_rfl) ?_ | with_reducible refine wp_region_here (by kernel_rfl) (by kernel_rfl) ?_); (repeat (go_big_quiet_step ((first | (go_at_call 223; with_reducible exact Ret.grow _ (HC.out _ _ (ht.up (by repeat' (first | (with_reducible exact Up.refl _) | (with_reducible assumption) | (with_reducible refine Up.alloc ?_ _) | (with_reducible refine Up.drew ?_) | (with_reducible refine Up.grow ?_ _) | (with_reducible refine Up.setCell ?_ (by (try simp); (try omega)) _)))))) | (go_at_call 231; with_reducible exact Ret.grow _ (HM.out _)) | (go_at_call 142; with_reducible exact Ret.same _ (s_In _ _ _ _)) | (go_at_call 186; with_reducible exact Ret.same _ (i_In _ _ _ _)) | (go_at_call 222; with_reducible exact Ret.same _ (s_Rate _ _)) | (go_at_call 165; with_reducible exact Ret.same _ (i_Rate _ _)) | (go_at_call 262; with_reducible exact Ret.same _ (i_Years _ _)) | (go_at_call 227; with_reducible exact Ret.same _ (s_Amount6 _ _)) | (go_at_call 236; with_reducible exact Ret.same _ (s_Sum7 _ _)))))); refine wpQuiet_nil ?_; intro w' hw'; obtain ⟨x, rfl⟩ := hw'))
    go_ret
    exact ⟨rfl, (by repeat' (first | (with_reducible exact Up.refl _) | (with_reducible assumption) | (with_reducible refine Up.alloc ?_ _) | (with_reducible refine Up.drew ?_) | (with_reducible refine Up.grow ?_ _) | (with_reducible refine Up.setCell ?_ (by (try simp); (try omega)) _)))⟩
end
end Go.Proofs.Ytdeoampkbbbleaa
