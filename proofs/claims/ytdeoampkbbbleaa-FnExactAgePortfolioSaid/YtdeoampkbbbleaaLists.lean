/- Contracts of the reference's lists of columns. Condition: the slice reads as the table's numbers. -/
import Derived.Test.YtdeoampkbbbleaaCodes
import Derived.Test.YtdeoampkbbbleaaCols
import Derived.Test.YtdeoampkbbbleaaOwn
namespace Go.Proofs.Ytdeoampkbbbleaa
open Go.RowKit Pu

/-- A new slice and a code are returned. -/
def RetIC (w : World) (xs : List Int) (code : Int) (e : Ending) (w' : World) : Prop := ∃ v, e = .returned (.tuple #[v, .int .i64 code]) ∧ Up w w' ∧ Own w w' v xs

open Classical in
/-- What a column's list is. -/
noncomputable def colList (T : Tab) (r : Int) (g : Nat → Int) : List Int := if code5 T r T.first = 0 then (List.range T.n).map g else []

theorem range_snoc (g : Nat → Int) (k : Nat) : (List.range (k + 1)).map g = (List.range k).map g ++ [g k] := by simp [List.range_succ]

set_option maxHeartbeats 1000000 in
theorem s_ListD (T : Tab) (r : Int) (v : Value) (w : World) (hv : TabAt w T v) :
    Calls Try.prog 204 #[v, .int .i64 r, .int .i64 0] w (RetIC w (colList T r (T.D r)) (code5 T r T.first)) := by
  have hv' := hv
  obtain ⟨A, c, rfl, hc, hm, _, hI⟩ := hv
  unfold colList
  by_cases hz : code5 T r T.first = 0
  case neg =>
    rw [if_neg hz]
    have hz1 : (code5 T r T.first != 0) = true := by simpa using hz
    have hz2 : (code5 T r T.first == 0) = false := by simpa using hz
    clear hz
    go_enter Try.func204, Try.ntmps204
    go_wp2_with (go_at_call 198; refine (s_Code5 T _ _ _ _ (hv'.up (by repeat' (first | (with_reducible exact Up.refl _) | (with_reducible assumption) | (with_reducible refine Up.alloc ?_ _) | (with_reducible refine Up.drew ?_) | (with_reducible refine Up.grow ?_ _) | (with_reducible refine Up.setCell ?_ (by (try simp); (try omega)) _))))).mono ?_; rintro e w' ⟨rfl, hb⟩; first | (obtain ⟨x, rfl⟩ := Grow.on x hb) | (obtain ⟨x, rfl⟩ := Grow.mk' hb))
    go_ret2
    exact ⟨_, rfl, (by repeat' (first | (with_reducible exact Up.refl _) | (with_reducible assumption) | (with_reducible refine Up.alloc ?_ _) | (with_reducible refine Up.drew ?_) | (with_reducible refine Up.grow ?_ _) | (with_reducible refine Up.setCell ?_ (by (try simp); (try omega)) _))), Own.nil _ _⟩
  obtain ⟨hT, h0, h1, _, _⟩ := code5_zero.1 hz
  have q1 := hT.lo; have q2 := hT.hi; have q3 := hT.n120; have q4 := hT.n2
  rw [if_pos hz]
  have hcode : ∀ w, TabAt w T (.agg #[.int .i64 T.first, .slice A T.n c]) → Calls Try.prog 198 #[.agg #[.int .i64 T.first, .slice A T.n c], .int .i64 r, .int .i64 T.first] w (Ret w (.int .i64 0)) := fun w h => by
    have := s_Code5 T r T.first _ w h; rwa [hz] at this
  rw [hz]
  have HCD := Lib.hid hcode
  clear hz hcode
  go_enter Try.func204, Try.ntmps204
  go_wp2_with (go_at_call 198; refine (HCD.out _ (hv'.up (by repeat' (first | (with_reducible exact Up.refl _) | (with_reducible assumption) | (with_reducible refine Up.alloc ?_ _) | (with_reducible refine Up.drew ?_) | (with_reducible refine Up.grow ?_ _) | (with_reducible refine Up.setCell ?_ (by (try simp); (try omega)) _))))).mono ?_; rintro e w' ⟨rfl, hb⟩; first | (obtain ⟨x, rfl⟩ := Grow.on x hb) | (obtain ⟨x, rfl⟩ := Grow.mk' hb))
  go_loopw [9, 10] (fun o i wr => ∃ (k : Nat) (y : Grow (w.alloc (.cells #[.int .i64 T.first, .slice A T.n c] 31))), k ≤ T.n ∧ i = .int .i64 (T.first + k) ∧ wr = y.to ∧ Own (w.alloc (.cells #[.int .i64 T.first, .slice A T.n c] 31)) y.to o ((List.range k).map (T.D r))) (fun _ i _ => (T.first + T.n - intOf i).toNat)
  case atStart =>
    obtain ⟨y, hy⟩ := Grow.mk' (show Below (w.alloc (.cells #[.int .i64 T.first, .slice A T.n c] 31)).heap.size (w.alloc (.cells #[.int .i64 T.first, .slice A T.n c] 31)) (x.to.alloc (.cells #[] 2)) from x.below.alloc x.size _)
    exact ⟨0, y, by omega, by simp, hy, by rw [← hy]; exact Own.start _ x.size⟩
  case round =>
    clear hb
    obtain ⟨k, x, hk, rfl, rfl, hown⟩ := hrel
    have HO := Lib.hid hown
    have E := Lib.hid (range_snoc (T.D r) k)
    have e : (T.first + k - T.first).toNat = k := by omega
    have HE := Lib.hid e
    clear hown e
    by_cases hlt : k < T.n
    · go_wp2_with (first | (go_at_call 179; refine (s_End hT _ _ (hv'.up (by repeat' (first | (with_reducible exact Up.refl _) | (with_reducible assumption) | (with_reducible refine Up.alloc ?_ _) | (with_reducible refine Up.drew ?_) | (with_reducible refine Up.grow ?_ _) | (with_reducible refine Up.setCell ?_ (by (try simp); (try omega)) _))))).mono ?_; rintro e w' ⟨rfl, hb⟩; first | (obtain ⟨x, rfl⟩ := Grow.on x hb) | (obtain ⟨x, rfl⟩ := Grow.mk' hb)) | (go_at_call 152; refine (s_D hT h0 h1 _ (by omega) (by omega) _ _ (hv'.up (by repeat' (first | (with_reducible exact Up.refl _) | (with_reducible assumption) | (with_reducible refine Up.alloc ?_ _) | (with_reducible refine Up.drew ?_) | (with_reducible refine Up.grow ?_ _) | (with_reducible refine Up.setCell ?_ (by (try simp); (try omega)) _))))).mono ?_; rintro e w' ⟨rfl, hb2⟩; obtain ⟨x, rfl⟩ := Grow.on x hb2; rw [HE.out]) | (at_builtin; refine wp_push x.below ((HO.out.up hb).up hb2) rfl _ _ rfl rfl rfl (by simp; omega) ?_; intro v' y hown2 hg2))
      go_roundw
      case rel => exact ⟨k + 1, y, by omega, by go_num, rfl, by rw [E.out]; exact hown2⟩
      case measure => simp [intOf]; omega
    · go_wp2_with (go_at_call 179; refine (s_End hT _ _ (hv'.up (by repeat' (first | (with_reducible exact Up.refl _) | (with_reducible assumption) | (with_reducible refine Up.alloc ?_ _) | (with_reducible refine Up.drew ?_) | (with_reducible refine Up.grow ?_ _) | (with_reducible refine Up.setCell ?_ (by (try simp); (try omega)) _))))).mono ?_; rintro e w' ⟨rfl, hb⟩; first | (obtain ⟨x, rfl⟩ := Grow.on x hb) | (obtain ⟨x, rfl⟩ := Grow.mk' hb))
      go_ret2
      have hk2 : k = T.n := by omega
      subst hk2
      exact ⟨_, rfl, (by repeat' (first | (with_reducible exact Up.refl _) | (with_reducible assumption) | (with_reducible refine Up.alloc ?_ _) | (with_reducible refine Up.drew ?_) | (with_reducible refine Up.grow ?_ _) | (with_reducible refine Up.setCell ?_ (by (try simp); (try omega)) _))), ((HO.out.up hb).base (by simp))⟩
theorem s_ColumnD (T : Tab) (r : Int) (v : Value) (w : World) (hv : TabAt w T v) :
    Calls Try.prog 79 #[v, .int .i64 r] w (RetIC w (colList T r (T.D r)) (code5 T r T.first)) := by
  have hv' := hv
  obtain ⟨A, c, rfl, hc, hm, _, hI⟩ := hv
  go_enter Try.func79, Try.ntmps79
  go_wp2_with (go_at_call 204; refine (s_ListD T r _ _ (hv'.up (by repeat' (first | (with_reducible exact Up.refl _) | (with_reducible assumption) | (with_reducible refine Up.alloc ?_ _) | (with_reducible refine Up.drew ?_) | (with_reducible refine Up.grow ?_ _) | (with_reducible refine Up.setCell ?_ (by (try simp); (try omega)) _))))).mono ?_; rintro e w' ⟨v, rfl, hb, hown⟩; obtain ⟨x, rfl⟩ := Grow.mk' hb)
  go_ret2
  exact ⟨v, rfl, (by repeat' (first | (with_reducible exact Up.refl _) | (with_reducible assumption) | (with_reducible refine Up.alloc ?_ _) | (with_reducible refine Up.drew ?_) | (with_reducible refine Up.grow ?_ _) | (with_reducible refine Up.setCell ?_ (by (try simp); (try omega)) _))), hown.base (by simp)⟩
set_option maxHeartbeats 1000000 in
theorem s_ListN (T : Tab) (r : Int) (v : Value) (w : World) (hv : TabAt w T v) :
    Calls Try.prog 204 #[v, .int .i64 r, .int .i64 1] w (RetIC w (colList T r (T.N r)) (code5 T r T.first)) := by
  have hv' := hv
  obtain ⟨A, c, rfl, hc, hm, _, hI⟩ := hv
  unfold colList
  by_cases hz : code5 T r T.first = 0
  case neg =>
    rw [if_neg hz]
    have hz1 : (code5 T r T.first != 0) = true := by simpa using hz
    have hz2 : (code5 T r T.first == 0) = false := by simpa using hz
    clear hz
    go_enter Try.func204, Try.ntmps204
    go_wp2_with (go_at_call 198; refine (s_Code5 T _ _ _ _ (hv'.up (by repeat' (first | (with_reducible exact Up.refl _) | (with_reducible assumption) | (with_reducible refine Up.alloc ?_ _) | (with_reducible refine Up.drew ?_) | (with_reducible refine Up.grow ?_ _) | (with_reducible refine Up.setCell ?_ (by (try simp); (try omega)) _))))).mono ?_; rintro e w' ⟨rfl, hb⟩; first | (obtain ⟨x, rfl⟩ := Grow.on x hb) | (obtain ⟨x, rfl⟩ := Grow.mk' hb))
    go_ret2
    exact ⟨_, rfl, (by repeat' (first | (with_reducible exact Up.refl _) | (with_reducible assumption) | (with_reducible refine Up.alloc ?_ _) | (with_reducible refine Up.drew ?_) | (with_reducible refine Up.grow ?_ _) | (with_reducible refine Up.setCell ?_ (by (try simp); (try omega)) _))), Own.nil _ _⟩
  obtain ⟨hT, h0, h1, _, _⟩ := code5_zero.1 hz
  have q1 := hT.lo; have q2 := hT.hi; have q3 := hT.n120; have q4 := hT.n2
  rw [if_pos hz]
  have hcode : ∀ w, TabAt w T (.agg #[.int .i64 T.first, .slice A T.n c]) → Calls Try.prog 198 #[.agg #[.int .i64 T.first, .slice A T.n c], .int .i64 r, .int .i64 T.first] w (Ret w (.int .i64 0)) := fun w h => by
    have := s_Code5 T r T.first _ w h; rwa [hz] at this
  rw [hz]
  have HCD := Lib.hid hcode
  clear hz hcode
  go_enter Try.func204, Try.ntmps204
  go_wp2_with (go_at_call 198; refine (HCD.out _ (hv'.up (by repeat' (first | (with_reducible exact Up.refl _) | (with_reducible assumption) | (with_reducible refine Up.alloc ?_ _) | (with_reducible refine Up.drew ?_) | (with_reducible refine Up.grow ?_ _) | (with_reducible refine Up.setCell ?_ (by (try simp); (try omega)) _))))).mono ?_; rintro e w' ⟨rfl, hb⟩; first | (obtain ⟨x, rfl⟩ := Grow.on x hb) | (obtain ⟨x, rfl⟩ := Grow.mk' hb))
  go_loopw [9, 10] (fun o i wr => ∃ (k : Nat) (y : Grow (w.alloc (.cells #[.int .i64 T.first, .slice A T.n c] 31))), k ≤ T.n ∧ i = .int .i64 (T.first + k) ∧ wr = y.to ∧ Own (w.alloc (.cells #[.int .i64 T.first, .slice A T.n c] 31)) y.to o ((List.range k).map (T.N r))) (fun _ i _ => (T.first + T.n - intOf i).toNat)
  case atStart =>
    obtain ⟨y, hy⟩ := Grow.mk' (show Below (w.alloc (.cells #[.int .i64 T.first, .slice A T.n c] 31)).heap.size (w.alloc (.cells #[.int .i64 T.first, .slice A T.n c] 31)) (x.to.alloc (.cells #[] 2)) from x.below.alloc x.size _)
    exact ⟨0, y, by omega, by simp, hy, by rw [← hy]; exact Own.start _ x.size⟩
  case round =>
    clear hb
    obtain ⟨k, x, hk, rfl, rfl, hown⟩ := hrel
    have HO := Lib.hid hown
    have E := Lib.hid (range_snoc (T.N r) k)
    have e : (T.first + k - T.first).toNat = k := by omega
    have HE := Lib.hid e
    clear hown e
    by_cases hlt : k < T.n
    · go_wp2_with (first | (go_at_call 179; refine (s_End hT _ _ (hv'.up (by repeat' (first | (with_reducible exact Up.refl _) | (with_reducible assumption) | (with_reducible refine Up.alloc ?_ _) | (with_reducible refine Up.drew ?_) | (with_reducible refine Up.grow ?_ _) | (with_reducible refine Up.setCell ?_ (by (try simp); (try omega)) _))))).mono ?_; rintro e w' ⟨rfl, hb⟩; first | (obtain ⟨x, rfl⟩ := Grow.on x hb) | (obtain ⟨x, rfl⟩ := Grow.mk' hb)) | (go_at_call 199; refine (s_N hT h0 h1 _ (by omega)  _ _ (hv'.up (by repeat' (first | (with_reducible exact Up.refl _) | (with_reducible assumption) | (with_reducible refine Up.alloc ?_ _) | (with_reducible refine Up.drew ?_) | (with_reducible refine Up.grow ?_ _) | (with_reducible refine Up.setCell ?_ (by (try simp); (try omega)) _))))).mono ?_; rintro e w' ⟨rfl, hb2⟩; obtain ⟨x, rfl⟩ := Grow.on x hb2; rw [HE.out]) | (at_builtin; refine wp_push x.below ((HO.out.up hb).up hb2) rfl _ _ rfl rfl rfl (by simp; omega) ?_; intro v' y hown2 hg2))
      go_roundw
      case rel => exact ⟨k + 1, y, by omega, by go_num, rfl, by rw [E.out]; exact hown2⟩
      case measure => simp [intOf]; omega
    · go_wp2_with (go_at_call 179; refine (s_End hT _ _ (hv'.up (by repeat' (first | (with_reducible exact Up.refl _) | (with_reducible assumption) | (with_reducible refine Up.alloc ?_ _) | (with_reducible refine Up.drew ?_) | (with_reducible refine Up.grow ?_ _) | (with_reducible refine Up.setCell ?_ (by (try simp); (try omega)) _))))).mono ?_; rintro e w' ⟨rfl, hb⟩; first | (obtain ⟨x, rfl⟩ := Grow.on x hb) | (obtain ⟨x, rfl⟩ := Grow.mk' hb))
      go_ret2
      have hk2 : k = T.n := by omega
      subst hk2
      exact ⟨_, rfl, (by repeat' (first | (with_reducible exact Up.refl _) | (with_reducible assumption) | (with_reducible refine Up.alloc ?_ _) | (with_reducible refine Up.drew ?_) | (with_reducible refine Up.grow ?_ _) | (with_reducible refine Up.setCell ?_ (by (try simp); (try omega)) _))), ((HO.out.up hb).base (by simp))⟩
theorem s_ColumnN (T : Tab) (r : Int) (v : Value) (w : World) (hv : TabAt w T v) :
    Calls Try.prog 81 #[v, .int .i64 r] w (RetIC w (colList T r (T.N r)) (code5 T r T.first)) := by
  have hv' := hv
  obtain ⟨A, c, rfl, hc, hm, _, hI⟩ := hv
  go_enter Try.func81, Try.ntmps81
  go_wp2_with (go_at_call 204; refine (s_ListN T r _ _ (hv'.up (by repeat' (first | (with_reducible exact Up.refl _) | (with_reducible assumption) | (with_reducible refine Up.alloc ?_ _) | (with_reducible refine Up.drew ?_) | (with_reducible refine Up.grow ?_ _) | (with_reducible refine Up.setCell ?_ (by (try simp); (try omega)) _))))).mono ?_; rintro e w' ⟨v, rfl, hb, hown⟩; obtain ⟨x, rfl⟩ := Grow.mk' hb)
  go_ret2
  exact ⟨v, rfl, (by repeat' (first | (with_reducible exact Up.refl _) | (with_reducible assumption) | (with_reducible refine Up.alloc ?_ _) | (with_reducible refine Up.drew ?_) | (with_reducible refine Up.grow ?_ _) | (with_reducible refine Up.setCell ?_ (by (try simp); (try omega)) _))), hown.base (by simp)⟩
set_option maxHeartbeats 1000000 in
theorem s_ListC (T : Tab) (r : Int) (v : Value) (w : World) (hv : TabAt w T v) :
    Calls Try.prog 204 #[v, .int .i64 r, .int .i64 2] w (RetIC w (colList T r (T.C r)) (code5 T r T.first)) := by
  have hv' := hv
  obtain ⟨A, c, rfl, hc, hm, _, hI⟩ := hv
  unfold colList
  by_cases hz : code5 T r T.first = 0
  case neg =>
    rw [if_neg hz]
    have hz1 : (code5 T r T.first != 0) = true := by simpa using hz
    have hz2 : (code5 T r T.first == 0) = false := by simpa using hz
    clear hz
    go_enter Try.func204, Try.ntmps204
    go_wp2_with (go_at_call 198; refine (s_Code5 T _ _ _ _ (hv'.up (by repeat' (first | (with_reducible exact Up.refl _) | (with_reducible assumption) | (with_reducible refine Up.alloc ?_ _) | (with_reducible refine Up.drew ?_) | (with_reducible refine Up.grow ?_ _) | (with_reducible refine Up.setCell ?_ (by (try simp); (try omega)) _))))).mono ?_; rintro e w' ⟨rfl, hb⟩; first | (obtain ⟨x, rfl⟩ := Grow.on x hb) | (obtain ⟨x, rfl⟩ := Grow.mk' hb))
    go_ret2
    exact ⟨_, rfl, (by repeat' (first | (with_reducible exact Up.refl _) | (with_reducible assumption) | (with_reducible refine Up.alloc ?_ _) | (with_reducible refine Up.drew ?_) | (with_reducible refine Up.grow ?_ _) | (with_reducible refine Up.setCell ?_ (by (try simp); (try omega)) _))), Own.nil _ _⟩
  obtain ⟨hT, h0, h1, _, _⟩ := code5_zero.1 hz
  have q1 := hT.lo; have q2 := hT.hi; have q3 := hT.n120; have q4 := hT.n2
  rw [if_pos hz]
  have hcode : ∀ w, TabAt w T (.agg #[.int .i64 T.first, .slice A T.n c]) → Calls Try.prog 198 #[.agg #[.int .i64 T.first, .slice A T.n c], .int .i64 r, .int .i64 T.first] w (Ret w (.int .i64 0)) := fun w h => by
    have := s_Code5 T r T.first _ w h; rwa [hz] at this
  rw [hz]
  have HCD := Lib.hid hcode
  clear hz hcode
  go_enter Try.func204, Try.ntmps204
  go_wp2_with (go_at_call 198; refine (HCD.out _ (hv'.up (by repeat' (first | (with_reducible exact Up.refl _) | (with_reducible assumption) | (with_reducible refine Up.alloc ?_ _) | (with_reducible refine Up.drew ?_) | (with_reducible refine Up.grow ?_ _) | (with_reducible refine Up.setCell ?_ (by (try simp); (try omega)) _))))).mono ?_; rintro e w' ⟨rfl, hb⟩; first | (obtain ⟨x, rfl⟩ := Grow.on x hb) | (obtain ⟨x, rfl⟩ := Grow.mk' hb))
  go_loopw [9, 10] (fun o i wr => ∃ (k : Nat) (y : Grow (w.alloc (.cells #[.int .i64 T.first, .slice A T.n c] 31))), k ≤ T.n ∧ i = .int .i64 (T.first + k) ∧ wr = y.to ∧ Own (w.alloc (.cells #[.int .i64 T.first, .slice A T.n c] 31)) y.to o ((List.range k).map (T.C r))) (fun _ i _ => (T.first + T.n - intOf i).toNat)
  case atStart =>
    obtain ⟨y, hy⟩ := Grow.mk' (show Below (w.alloc (.cells #[.int .i64 T.first, .slice A T.n c] 31)).heap.size (w.alloc (.cells #[.int .i64 T.first, .slice A T.n c] 31)) (x.to.alloc (.cells #[] 2)) from x.below.alloc x.size _)
    exact ⟨0, y, by omega, by simp, hy, by rw [← hy]; exact Own.start _ x.size⟩
  case round =>
    clear hb
    obtain ⟨k, x, hk, rfl, rfl, hown⟩ := hrel
    have HO := Lib.hid hown
    have E := Lib.hid (range_snoc (T.C r) k)
    have e : (T.first + k - T.first).toNat = k := by omega
    have HE := Lib.hid e
    clear hown e
    by_cases hlt : k < T.n
    · go_wp2_with (first | (go_at_call 179; refine (s_End hT _ _ (hv'.up (by repeat' (first | (with_reducible exact Up.refl _) | (with_reducible assumption) | (with_reducible refine Up.alloc ?_ _) | (with_reducible refine Up.drew ?_) | (with_reducible refine Up.grow ?_ _) | (with_reducible refine Up.setCell ?_ (by (try simp); (try omega)) _))))).mono ?_; rintro e w' ⟨rfl, hb⟩; first | (obtain ⟨x, rfl⟩ := Grow.on x hb) | (obtain ⟨x, rfl⟩ := Grow.mk' hb)) | (go_at_call 200; refine (s_C hT h0 h1 _ (by omega) (by omega) _ _ (hv'.up (by repeat' (first | (with_reducible exact Up.refl _) | (with_reducible assumption) | (with_reducible refine Up.alloc ?_ _) | (with_reducible refine Up.drew ?_) | (with_reducible refine Up.grow ?_ _) | (with_reducible refine Up.setCell ?_ (by (try simp); (try omega)) _))))).mono ?_; rintro e w' ⟨rfl, hb2⟩; obtain ⟨x, rfl⟩ := Grow.on x hb2; rw [HE.out]) | (at_builtin; refine wp_push x.below ((HO.out.up hb).up hb2) rfl _ _ rfl rfl rfl (by simp; omega) ?_; intro v' y hown2 hg2))
      go_roundw
      case rel => exact ⟨k + 1, y, by omega, by go_num, rfl, by rw [E.out]; exact hown2⟩
      case measure => simp [intOf]; omega
    · go_wp2_with (go_at_call 179; refine (s_End hT _ _ (hv'.up (by repeat' (first | (with_reducible exact Up.refl _) | (with_reducible assumption) | (with_reducible refine Up.alloc ?_ _) | (with_reducible refine Up.drew ?_) | (with_reducible refine Up.grow ?_ _) | (with_reducible refine Up.setCell ?_ (by (try simp); (try omega)) _))))).mono ?_; rintro e w' ⟨rfl, hb⟩; first | (obtain ⟨x, rfl⟩ := Grow.on x hb) | (obtain ⟨x, rfl⟩ := Grow.mk' hb))
      go_ret2
      have hk2 : k = T.n := by omega
      subst hk2
      exact ⟨_, rfl, (by repeat' (first | (with_reducible exact Up.refl _) | (with_reducible assumption) | (with_reducible refine Up.alloc ?_ _) | (with_reducible refine Up.drew ?_) | (with_reducible refine Up.grow ?_ _) | (with_reducible refine Up.setCell ?_ (by (try simp); (try omega)) _))), ((HO.out.up hb).base (by simp))⟩
theorem s_ColumnC (T : Tab) (r : Int) (v : Value) (w : World) (hv : TabAt w T v) :
    Calls Try.prog 83 #[v, .int .i64 r] w (RetIC w (colList T r (T.C r)) (code5 T r T.first)) := by
  have hv' := hv
  obtain ⟨A, c, rfl, hc, hm, _, hI⟩ := hv
  go_enter Try.func83, Try.ntmps83
  go_wp2_with (go_at_call 204; refine (s_ListC T r _ _ (hv'.up (by repeat' (first | (with_reducible exact Up.refl _) | (with_reducible assumption) | (with_reducible refine Up.alloc ?_ _) | (with_reducible refine Up.drew ?_) | (with_reducible refine Up.grow ?_ _) | (with_reducible refine Up.setCell ?_ (by (try simp); (try omega)) _))))).mono ?_; rintro e w' ⟨v, rfl, hb, hown⟩; obtain ⟨x, rfl⟩ := Grow.mk' hb)
  go_ret2
  exact ⟨v, rfl, (by repeat' (first | (with_reducible exact Up.refl _) | (with_reducible assumption) | (with_reducible refine Up.alloc ?_ _) | (with_reducible refine Up.drew ?_) | (with_reducible refine Up.grow ?_ _) | (with_reducible refine Up.setCell ?_ (by (try simp); (try omega)) _))), hown.base (by simp)⟩
set_option maxHeartbeats 1000000 in
theorem s_ListM (T : Tab) (r : Int) (v : Value) (w : World) (hv : TabAt w T v) :
    Calls Try.prog 204 #[v, .int .i64 r, .int .i64 3] w (RetIC w (colList T r (T.M r)) (code5 T r T.first)) := by
  have hv' := hv
  obtain ⟨A, c, rfl, hc, hm, _, hI⟩ := hv
  unfold colList
  by_cases hz : code5 T r T.first = 0
  case neg =>
    rw [if_neg hz]
    have hz1 : (code5 T r T.first != 0) = true := by simpa using hz
    have hz2 : (code5 T r T.first == 0) = false := by simpa using hz
    clear hz
    go_enter Try.func204, Try.ntmps204
    go_wp2_with (go_at_call 198; refine (s_Code5 T _ _ _ _ (hv'.up (by repeat' (first | (with_reducible exact Up.refl _) | (with_reducible assumption) | (with_reducible refine Up.alloc ?_ _) | (with_reducible refine Up.drew ?_) | (with_reducible refine Up.grow ?_ _) | (with_reducible refine Up.setCell ?_ (by (try simp); (try omega)) _))))).mono ?_; rintro e w' ⟨rfl, hb⟩; first | (obtain ⟨x, rfl⟩ := Grow.on x hb) | (obtain ⟨x, rfl⟩ := Grow.mk' hb))
    go_ret2
    exact ⟨_, rfl, (by repeat' (first | (with_reducible exact Up.refl _) | (with_reducible assumption) | (with_reducible refine Up.alloc ?_ _) | (with_reducible refine Up.drew ?_) | (with_reducible refine Up.grow ?_ _) | (with_reducible refine Up.setCell ?_ (by (try simp); (try omega)) _))), Own.nil _ _⟩
  obtain ⟨hT, h0, h1, _, _⟩ := code5_zero.1 hz
  have q1 := hT.lo; have q2 := hT.hi; have q3 := hT.n120; have q4 := hT.n2
  rw [if_pos hz]
  have hcode : ∀ w, TabAt w T (.agg #[.int .i64 T.first, .slice A T.n c]) → Calls Try.prog 198 #[.agg #[.int .i64 T.first, .slice A T.n c], .int .i64 r, .int .i64 T.first] w (Ret w (.int .i64 0)) := fun w h => by
    have := s_Code5 T r T.first _ w h; rwa [hz] at this
  rw [hz]
  have HCD := Lib.hid hcode
  clear hz hcode
  go_enter Try.func204, Try.ntmps204
  go_wp2_with (go_at_call 198; refine (HCD.out _ (hv'.up (by repeat' (first | (with_reducible exact Up.refl _) | (with_reducible assumption) | (with_reducible refine Up.alloc ?_ _) | (with_reducible refine Up.drew ?_) | (with_reducible refine Up.grow ?_ _) | (with_reducible refine Up.setCell ?_ (by (try simp); (try omega)) _))))).mono ?_; rintro e w' ⟨rfl, hb⟩; first | (obtain ⟨x, rfl⟩ := Grow.on x hb) | (obtain ⟨x, rfl⟩ := Grow.mk' hb))
  go_loopw [9, 10] (fun o i wr => ∃ (k : Nat) (y : Grow (w.alloc (.cells #[.int .i64 T.first, .slice A T.n c] 31))), k ≤ T.n ∧ i = .int .i64 (T.first + k) ∧ wr = y.to ∧ Own (w.alloc (.cells #[.int .i64 T.first, .slice A T.n c] 31)) y.to o ((List.range k).map (T.M r))) (fun _ i _ => (T.first + T.n - intOf i).toNat)
  case atStart =>
    obtain ⟨y, hy⟩ := Grow.mk' (show Below (w.alloc (.cells #[.int .i64 T.first, .slice A T.n c] 31)).heap.size (w.alloc (.cells #[.int .i64 T.first, .slice A T.n c] 31)) (x.to.alloc (.cells #[] 2)) from x.below.alloc x.size _)
    exact ⟨0, y, by omega, by simp, hy, by rw [← hy]; exact Own.start _ x.size⟩
  case round =>
    clear hb
    obtain ⟨k, x, hk, rfl, rfl, hown⟩ := hrel
    have HO := Lib.hid hown
    have E := Lib.hid (range_snoc (T.M r) k)
    have e : (T.first + k - T.first).toNat = k := by omega
    have HE := Lib.hid e
    clear hown e
    by_cases hlt : k < T.n
    · go_wp2_with (first | (go_at_call 179; refine (s_End hT _ _ (hv'.up (by repeat' (first | (with_reducible exact Up.refl _) | (with_reducible assumption) | (with_reducible refine Up.alloc ?_ _) | (with_reducible refine Up.drew ?_) | (with_reducible refine Up.grow ?_ _) | (with_reducible refine Up.setCell ?_ (by (try simp); (try omega)) _))))).mono ?_; rintro e w' ⟨rfl, hb⟩; first | (obtain ⟨x, rfl⟩ := Grow.on x hb) | (obtain ⟨x, rfl⟩ := Grow.mk' hb)) | (go_at_call 201; refine (s_M hT h0 h1 _ (by omega)  _ _ (hv'.up (by repeat' (first | (with_reducible exact Up.refl _) | (with_reducible assumption) | (with_reducible refine Up.alloc ?_ _) | (with_reducible refine Up.drew ?_) | (with_reducible refine Up.grow ?_ _) | (with_reducible refine Up.setCell ?_ (by (try simp); (try omega)) _))))).mono ?_; rintro e w' ⟨rfl, hb2⟩; obtain ⟨x, rfl⟩ := Grow.on x hb2; rw [HE.out]) | (at_builtin; refine wp_push x.below ((HO.out.up hb).up hb2) rfl _ _ rfl rfl rfl (by simp; omega) ?_; intro v' y hown2 hg2))
      go_roundw
      case rel => exact ⟨k + 1, y, by omega, by go_num, rfl, by rw [E.out]; exact hown2⟩
      case measure => simp [intOf]; omega
    · go_wp2_with (go_at_call 179; refine (s_End hT _ _ (hv'.up (by repeat' (first | (with_reducible exact Up.refl _) | (with_reducible assumption) | (with_reducible refine Up.alloc ?_ _) | (with_reducible refine Up.drew ?_) | (with_reducible refine Up.grow ?_ _) | (with_reducible refine Up.setCell ?_ (by (try simp); (try omega)) _))))).mono ?_; rintro e w' ⟨rfl, hb⟩; first | (obtain ⟨x, rfl⟩ := Grow.on x hb) | (obtain ⟨x, rfl⟩ := Grow.mk' hb))
      go_ret2
      have hk2 : k = T.n := by omega
      subst hk2
      exact ⟨_, rfl, (by repeat' (first | (with_reducible exact Up.refl _) | (with_reducible assumption) | (with_reducible refine Up.alloc ?_ _) | (with_reducible refine Up.drew ?_) | (with_reducible refine Up.grow ?_ _) | (with_reducible refine Up.setCell ?_ (by (try simp); (try omega)) _))), ((HO.out.up hb).base (by simp))⟩
theorem s_ColumnM (T : Tab) (r : Int) (v : Value) (w : World) (hv : TabAt w T v) :
    Calls Try.prog 85 #[v, .int .i64 r] w (RetIC w (colList T r (T.M r)) (code5 T r T.first)) := by
  have hv' := hv
  obtain ⟨A, c, rfl, hc, hm, _, hI⟩ := hv
  go_enter Try.func85, Try.ntmps85
  go_wp2_with (go_at_call 204; refine (s_ListM T r _ _ (hv'.up (by repeat' (first | (with_reducible exact Up.refl _) | (with_reducible assumption) | (with_reducible refine Up.alloc ?_ _) | (with_reducible refine Up.drew ?_) | (with_reducible refine Up.grow ?_ _) | (with_reducible refine Up.setCell ?_ (by (try simp); (try omega)) _))))).mono ?_; rintro e w' ⟨v, rfl, hb, hown⟩; obtain ⟨x, rfl⟩ := Grow.mk' hb)
  go_ret2
  exact ⟨v, rfl, (by repeat' (first | (with_reducible exact Up.refl _) | (with_reducible assumption) | (with_reducible refine Up.alloc ?_ _) | (with_reducible refine Up.drew ?_) | (with_reducible refine Up.grow ?_ _) | (with_reducible refine Up.setCell ?_ (by (try simp); (try omega)) _))), hown.base (by simp)⟩
end Go.Proofs.Ytdeoampkbbbleaa
