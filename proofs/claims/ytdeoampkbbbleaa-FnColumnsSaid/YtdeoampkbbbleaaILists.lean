/- Contracts of the program's lists of columns. Condition: the slice reads as the table's numbers. -/
import Derived.Test.YtdeoampkbbbleaaICols
import Derived.Test.YtdeoampkbbbleaaLists
namespace Go.Proofs.Ytdeoampkbbbleaa
open Go.RowKit Pu

theorem i_PickD (a b c d : Int) (w : World) :
    Calls Try.prog 203 #[.agg #[.int .i64 a, .int .i64 b, .int .i64 c, .int .i64 d]] w (Ret w (.int .i64 a)) := by
  go_enter Try.func203, Try.ntmps203
  go_wp2
  go_ret
  exact ⟨rfl, (by repeat' (first | (with_reducible exact Up.refl _) | (with_reducible assumption) | (with_reducible refine Up.alloc ?_ _) | (with_reducible refine Up.drew ?_) | (with_reducible refine Up.grow ?_ _) | (with_reducible refine Up.setCell ?_ (by (try simp); (try omega)) _)))⟩

set_option maxRecDepth 100000 in
set_option maxHeartbeats 1000000 in
theorem i_ByD (T : Tab) (r : Int) (v : Value) (w : World) (hv : TabAt w T v) :
    Calls Try.prog 202 #[v, .int .i64 r, .func (.func 203) #[] #[]] w (RetIC w (colList T r (T.D r)) (code5 T r T.first)) := by
  have hv' := hv
  obtain ⟨A, c, rfl, hc, hm, _, hI⟩ := hv
  unfold colList
  by_cases hz : code5 T r T.first = 0
  case neg =>
    rw [if_neg hz]
    have hz1 : (code5 T r T.first != 0) = true := by simpa using hz
    have hz2 : (code5 T r T.first == 0) = false := by simpa using hz
    clear hz
    go_enter Try.func202, Try.ntmps202
    go_wp2_with (go_at_call 196; refine (i_Code5 T _ _ _ (hv'.up (by repeat' (first | (with_reducible exact Up.refl _) | (with_reducible assumption) | (with_reducible refine Up.alloc ?_ _) | (with_reducible refine Up.drew ?_) | (with_reducible refine Up.grow ?_ _) | (with_reducible refine Up.setCell ?_ (by (try simp); (try omega)) _))))).mono ?_; rintro e w' ⟨rfl, hb⟩; first | (obtain ⟨x, rfl⟩ := Grow.on x hb) | (obtain ⟨x, rfl⟩ := Grow.mk' hb))
    go_ret2
    exact ⟨_, rfl, (by repeat' (first | (with_reducible exact Up.refl _) | (with_reducible assumption) | (with_reducible refine Up.alloc ?_ _) | (with_reducible refine Up.drew ?_) | (with_reducible refine Up.grow ?_ _) | (with_reducible refine Up.setCell ?_ (by (try simp); (try omega)) _))), Own.nil _ _⟩
  obtain ⟨hT, h0, h1, _, _⟩ := code5_zero.1 hz
  have q1 := hT.lo; have q2 := hT.hi; have q3 := hT.n120; have q4 := hT.n2; have q5 := hT.fin
  rw [if_pos hz]
  have hcode : ∀ w, TabAt w T (.agg #[.int .i64 T.first, .slice A T.n c]) → Calls Try.prog 196 #[.agg #[.int .i64 T.first, .slice A T.n c], .int .i64 r] w (Ret w (.int .i64 0)) := fun w h => by
    have := i_Code5 T r _ w h; rwa [hz] at this
  rw [hz]
  have HCD := Lib.hid hcode
  obtain ⟨L, hL⟩ : ∃ L : Nat, (151 - T.first).toNat = L := ⟨_, rfl⟩
  have hL1 : T.n ≤ L := by omega
  have HL := Lib.hid hL
  clear hz hcode hL
  go_enter Try.func202, Try.ntmps202
  go_wp2_with (go_at_call 196; refine (HCD.out _ (hv'.up (by repeat' (first | (with_reducible exact Up.refl _) | (with_reducible assumption) | (with_reducible refine Up.alloc ?_ _) | (with_reducible refine Up.drew ?_) | (with_reducible refine Up.grow ?_ _) | (with_reducible refine Up.setCell ?_ (by (try simp); (try omega)) _))))).mono ?_; rintro e w' ⟨rfl, hb⟩; first | (obtain ⟨x, rfl⟩ := Grow.on x hb) | (obtain ⟨x, rfl⟩ := Grow.mk' hb))
  have hwx : InW x.to w.heap.size := by have := x.size; simp at this; unfold InW; omega
  have hne : ¬ w.heap.size = x.to.heap.size := by unfold InW at hwx; omega
  have hL2 : (0 : Int) ≤ (T.n : Int) := by omega
  have hL3 : (T.n : Int) ≤ L := by omega
  go_region_held3 (fun w' => w'.cell? ⟨w.heap.size, 0, none⟩ = some (.int .i64 T.first) ∧ w'.cell? ⟨w.heap.size, 1, none⟩ = some (.slice A T.n c)) ((repeat' apply And.intro) <;> go_simp) ((go_at_call 197; refine (i_Cols hT h0 h1 _ _ (hv'.up (by repeat' (first | (with_reducible exact Up.refl _) | (with_reducible assumption) | (with_reducible refine Up.alloc ?_ _) | (with_reducible refine Up.drew ?_) | (with_reducible refine Up.grow ?_ _) | (with_reducible refine Up.setCell ?_ (by (try simp); (try omega)) _))))).mono ?_; rintro e w' ⟨vc, rfl, hb2, g, cs, rfl, hblk, hcs⟩; rw [HL.out]; obtain ⟨y, rfl⟩ := Grow.mk' ((Up.drew (Up.alloc (Up.grow (Up.refl _) x) _)).trans hb2)))
  have HC := Lib.hid hcs
  clear hcs
  have hown : Own (w.alloc (.cells #[.int .i64 T.first, .slice A T.n c] 31)) y.to (.slice (some ⟨x.to.heap.size, 0, none⟩) 0 0) [] := (Own.start (w.alloc (.cells #[.int .i64 T.first, .slice A T.n c] 31)) x.size).up ((Up.drew (Up.refl _)).trans hb2)
  go_wp2
  go_loopw [9, 27] (fun o i wr => ∃ (k : Nat) (z : Grow (w.alloc (.cells #[.int .i64 T.first, .slice A T.n c] 31))), k ≤ T.n ∧ i = .int .i64 k ∧ wr = z.to ∧ Own (w.alloc (.cells #[.int .i64 T.first, .slice A T.n c] 31)) z.to o ((List.range k).map (T.D r)) ∧ Blk z.to g 80 cs) (fun _ i _ => T.n - (intOf i).toNat)
  case atStart => exact ⟨0, y, by omega, rfl, rfl, hown, hblk⟩
  case round =>
    clear hown hblk hb hb2
    obtain ⟨k, x, hk, rfl, rfl, hown, hblk⟩ := hrel
    have HO := Lib.hid hown
    have HB := Lib.hid hblk
    have E := Lib.hid (range_snoc (T.D r) k)
    clear hown
    by_cases hlt : k < T.n
    · obtain ⟨e0, e1, e2, e3⟩ := row_at hblk (HC.out k (by rw [HL.out]; omega))
      have hgi : InW x.to g := hblk.inw
      clear hblk
      go_wp2_with (first | (go_at_call 203; refine (i_PickD _ _ _ _ _).mono ?_; rintro e w' ⟨rfl, hb3⟩; obtain ⟨u, rfl⟩ := Grow.mk' (((Up.alloc (Up.grow (Up.refl _) x) _)).trans hb3)) | (at_builtin; refine wp_push u.below (HO.out.up ((Up.alloc (Up.refl _) _).trans hb3)) rfl _ _ rfl rfl rfl (by simp; omega) ?_; intro v' y2 hown2 hg2))
      go_roundw
      case rel => exact ⟨k + 1, y2, by omega, by go_num, rfl, by rw [E.out]; exact hown2, ((HB.out.up ((Up.alloc (Up.refl _) _).trans hb3)).alloc _).push (World.ownsRow.alloc (HO.out.up ((Up.alloc (Up.refl _) _).trans hb3)) _) hg2⟩
      case measure => simp [intOf]; omega
    · clear hblk
      go_wp2
      go_ret2
      have hk2 : k = T.n := by omega
      subst hk2
      exact ⟨_, rfl, (by repeat' (first | (with_reducible exact Up.refl _) | (with_reducible assumption) | (with_reducible refine Up.alloc ?_ _) | (with_reducible refine Up.drew ?_) | (with_reducible refine Up.grow ?_ _) | (with_reducible refine Up.setCell ?_ (by (try simp); (try omega)) _))), HO.out.base (by simp)⟩
theorem i_ColumnD (T : Tab) (r : Int) (v : Value) (w : World) (hv : TabAt w T v) :
    Calls Try.prog 78 #[v, .int .i64 r] w (RetIC w (colList T r (T.D r)) (code5 T r T.first)) := by
  have hv' := hv
  obtain ⟨A, c, rfl, hc, hm, _, hI⟩ := hv
  go_enter Try.func78, Try.ntmps78
  go_wp2_with (go_at_call 202; refine (i_ByD T r _ _ (hv'.up (by repeat' (first | (with_reducible exact Up.refl _) | (with_reducible assumption) | (with_reducible refine Up.alloc ?_ _) | (with_reducible refine Up.drew ?_) | (with_reducible refine Up.grow ?_ _) | (with_reducible refine Up.setCell ?_ (by (try simp); (try omega)) _))))).mono ?_; rintro e w' ⟨v, rfl, hb, hown⟩; obtain ⟨x, rfl⟩ := Grow.mk' hb)
  go_ret2
  exact ⟨v, rfl, (by repeat' (first | (with_reducible exact Up.refl _) | (with_reducible assumption) | (with_reducible refine Up.alloc ?_ _) | (with_reducible refine Up.drew ?_) | (with_reducible refine Up.grow ?_ _) | (with_reducible refine Up.setCell ?_ (by (try simp); (try omega)) _))), hown.base (by simp)⟩
theorem i_PickN (a b c d : Int) (w : World) :
    Calls Try.prog 205 #[.agg #[.int .i64 a, .int .i64 b, .int .i64 c, .int .i64 d]] w (Ret w (.int .i64 b)) := by
  go_enter Try.func205, Try.ntmps205
  go_wp2
  go_ret
  exact ⟨rfl, (by repeat' (first | (with_reducible exact Up.refl _) | (with_reducible assumption) | (with_reducible refine Up.alloc ?_ _) | (with_reducible refine Up.drew ?_) | (with_reducible refine Up.grow ?_ _) | (with_reducible refine Up.setCell ?_ (by (try simp); (try omega)) _)))⟩

set_option maxRecDepth 100000 in
set_option maxHeartbeats 1000000 in
theorem i_ByN (T : Tab) (r : Int) (v : Value) (w : World) (hv : TabAt w T v) :
    Calls Try.prog 202 #[v, .int .i64 r, .func (.func 205) #[] #[]] w (RetIC w (colList T r (T.N r)) (code5 T r T.first)) := by
  have hv' := hv
  obtain ⟨A, c, rfl, hc, hm, _, hI⟩ := hv
  unfold colList
  by_cases hz : code5 T r T.first = 0
  case neg =>
    rw [if_neg hz]
    have hz1 : (code5 T r T.first != 0) = true := by simpa using hz
    have hz2 : (code5 T r T.first == 0) = false := by simpa using hz
    clear hz
    go_enter Try.func202, Try.ntmps202
    go_wp2_with (go_at_call 196; refine (i_Code5 T _ _ _ (hv'.up (by repeat' (first | (with_reducible exact Up.refl _) | (with_reducible assumption) | (with_reducible refine Up.alloc ?_ _) | (with_reducible refine Up.drew ?_) | (with_reducible refine Up.grow ?_ _) | (with_reducible refine Up.setCell ?_ (by (try simp); (try omega)) _))))).mono ?_; rintro e w' ⟨rfl, hb⟩; first | (obtain ⟨x, rfl⟩ := Grow.on x hb) | (obtain ⟨x, rfl⟩ := Grow.mk' hb))
    go_ret2
    exact ⟨_, rfl, (by repeat' (first | (with_reducible exact Up.refl _) | (with_reducible assumption) | (with_reducible refine Up.alloc ?_ _) | (with_reducible refine Up.drew ?_) | (with_reducible refine Up.grow ?_ _) | (with_reducible refine Up.setCell ?_ (by (try simp); (try omega)) _))), Own.nil _ _⟩
  obtain ⟨hT, h0, h1, _, _⟩ := code5_zero.1 hz
  have q1 := hT.lo; have q2 := hT.hi; have q3 := hT.n120; have q4 := hT.n2; have q5 := hT.fin
  rw [if_pos hz]
  have hcode : ∀ w, TabAt w T (.agg #[.int .i64 T.first, .slice A T.n c]) → Calls Try.prog 196 #[.agg #[.int .i64 T.first, .slice A T.n c], .int .i64 r] w (Ret w (.int .i64 0)) := fun w h => by
    have := i_Code5 T r _ w h; rwa [hz] at this
  rw [hz]
  have HCD := Lib.hid hcode
  obtain ⟨L, hL⟩ : ∃ L : Nat, (151 - T.first).toNat = L := ⟨_, rfl⟩
  have hL1 : T.n ≤ L := by omega
  have HL := Lib.hid hL
  clear hz hcode hL
  go_enter Try.func202, Try.ntmps202
  go_wp2_with (go_at_call 196; refine (HCD.out _ (hv'.up (by repeat' (first | (with_reducible exact Up.refl _) | (with_reducible assumption) | (with_reducible refine Up.alloc ?_ _) | (with_reducible refine Up.drew ?_) | (with_reducible refine Up.grow ?_ _) | (with_reducible refine Up.setCell ?_ (by (try simp); (try omega)) _))))).mono ?_; rintro e w' ⟨rfl, hb⟩; first | (obtain ⟨x, rfl⟩ := Grow.on x hb) | (obtain ⟨x, rfl⟩ := Grow.mk' hb))
  have hwx : InW x.to w.heap.size := by have := x.size; simp at this; unfold InW; omega
  have hne : ¬ w.heap.size = x.to.heap.size := by unfold InW at hwx; omega
  have hL2 : (0 : Int) ≤ (T.n : Int) := by omega
  have hL3 : (T.n : Int) ≤ L := by omega
  go_region_held3 (fun w' => w'.cell? ⟨w.heap.size, 0, none⟩ = some (.int .i64 T.first) ∧ w'.cell? ⟨w.heap.size, 1, none⟩ = some (.slice A T.n c)) ((repeat' apply And.intro) <;> go_simp) ((go_at_call 197; refine (i_Cols hT h0 h1 _ _ (hv'.up (by repeat' (first | (with_reducible exact Up.refl _) | (with_reducible assumption) | (with_reducible refine Up.alloc ?_ _) | (with_reducible refine Up.drew ?_) | (with_reducible refine Up.grow ?_ _) | (with_reducible refine Up.setCell ?_ (by (try simp); (try omega)) _))))).mono ?_; rintro e w' ⟨vc, rfl, hb2, g, cs, rfl, hblk, hcs⟩; rw [HL.out]; obtain ⟨y, rfl⟩ := Grow.mk' ((Up.drew (Up.alloc (Up.grow (Up.refl _) x) _)).trans hb2)))
  have HC := Lib.hid hcs
  clear hcs
  have hown : Own (w.alloc (.cells #[.int .i64 T.first, .slice A T.n c] 31)) y.to (.slice (some ⟨x.to.heap.size, 0, none⟩) 0 0) [] := (Own.start (w.alloc (.cells #[.int .i64 T.first, .slice A T.n c] 31)) x.size).up ((Up.drew (Up.refl _)).trans hb2)
  go_wp2
  go_loopw [9, 27] (fun o i wr => ∃ (k : Nat) (z : Grow (w.alloc (.cells #[.int .i64 T.first, .slice A T.n c] 31))), k ≤ T.n ∧ i = .int .i64 k ∧ wr = z.to ∧ Own (w.alloc (.cells #[.int .i64 T.first, .slice A T.n c] 31)) z.to o ((List.range k).map (T.N r)) ∧ Blk z.to g 80 cs) (fun _ i _ => T.n - (intOf i).toNat)
  case atStart => exact ⟨0, y, by omega, rfl, rfl, hown, hblk⟩
  case round =>
    clear hown hblk hb hb2
    obtain ⟨k, x, hk, rfl, rfl, hown, hblk⟩ := hrel
    have HO := Lib.hid hown
    have HB := Lib.hid hblk
    have E := Lib.hid (range_snoc (T.N r) k)
    clear hown
    by_cases hlt : k < T.n
    · obtain ⟨e0, e1, e2, e3⟩ := row_at hblk (HC.out k (by rw [HL.out]; omega))
      have hgi : InW x.to g := hblk.inw
      clear hblk
      go_wp2_with (first | (go_at_call 205; refine (i_PickN _ _ _ _ _).mono ?_; rintro e w' ⟨rfl, hb3⟩; obtain ⟨u, rfl⟩ := Grow.mk' (((Up.alloc (Up.grow (Up.refl _) x) _)).trans hb3)) | (at_builtin; refine wp_push u.below (HO.out.up ((Up.alloc (Up.refl _) _).trans hb3)) rfl _ _ rfl rfl rfl (by simp; omega) ?_; intro v' y2 hown2 hg2))
      go_roundw
      case rel => exact ⟨k + 1, y2, by omega, by go_num, rfl, by rw [E.out]; exact hown2, ((HB.out.up ((Up.alloc (Up.refl _) _).trans hb3)).alloc _).push (World.ownsRow.alloc (HO.out.up ((Up.alloc (Up.refl _) _).trans hb3)) _) hg2⟩
      case measure => simp [intOf]; omega
    · clear hblk
      go_wp2
      go_ret2
      have hk2 : k = T.n := by omega
      subst hk2
      exact ⟨_, rfl, (by repeat' (first | (with_reducible exact Up.refl _) | (with_reducible assumption) | (with_reducible refine Up.alloc ?_ _) | (with_reducible refine Up.drew ?_) | (with_reducible refine Up.grow ?_ _) | (with_reducible refine Up.setCell ?_ (by (try simp); (try omega)) _))), HO.out.base (by simp)⟩
theorem i_ColumnN (T : Tab) (r : Int) (v : Value) (w : World) (hv : TabAt w T v) :
    Calls Try.prog 80 #[v, .int .i64 r] w (RetIC w (colList T r (T.N r)) (code5 T r T.first)) := by
  have hv' := hv
  obtain ⟨A, c, rfl, hc, hm, _, hI⟩ := hv
  go_enter Try.func80, Try.ntmps80
  go_wp2_with (go_at_call 202; refine (i_ByN T r _ _ (hv'.up (by repeat' (first | (with_reducible exact Up.refl _) | (with_reducible assumption) | (with_reducible refine Up.alloc ?_ _) | (with_reducible refine Up.drew ?_) | (with_reducible refine Up.grow ?_ _) | (with_reducible refine Up.setCell ?_ (by (try simp); (try omega)) _))))).mono ?_; rintro e w' ⟨v, rfl, hb, hown⟩; obtain ⟨x, rfl⟩ := Grow.mk' hb)
  go_ret2
  exact ⟨v, rfl, (by repeat' (first | (with_reducible exact Up.refl _) | (with_reducible assumption) | (with_reducible refine Up.alloc ?_ _) | (with_reducible refine Up.drew ?_) | (with_reducible refine Up.grow ?_ _) | (with_reducible refine Up.setCell ?_ (by (try simp); (try omega)) _))), hown.base (by simp)⟩
theorem i_PickC (a b c d : Int) (w : World) :
    Calls Try.prog 206 #[.agg #[.int .i64 a, .int .i64 b, .int .i64 c, .int .i64 d]] w (Ret w (.int .i64 c)) := by
  go_enter Try.func206, Try.ntmps206
  go_wp2
  go_ret
  exact ⟨rfl, (by repeat' (first | (with_reducible exact Up.refl _) | (with_reducible assumption) | (with_reducible refine Up.alloc ?_ _) | (with_reducible refine Up.drew ?_) | (with_reducible refine Up.grow ?_ _) | (with_reducible refine Up.setCell ?_ (by (try simp); (try omega)) _)))⟩

set_option maxRecDepth 100000 in
set_option maxHeartbeats 1000000 in
theorem i_ByC (T : Tab) (r : Int) (v : Value) (w : World) (hv : TabAt w T v) :
    Calls Try.prog 202 #[v, .int .i64 r, .func (.func 206) #[] #[]] w (RetIC w (colList T r (T.C r)) (code5 T r T.first)) := by
  have hv' := hv
  obtain ⟨A, c, rfl, hc, hm, _, hI⟩ := hv
  unfold colList
  by_cases hz : code5 T r T.first = 0
  case neg =>
    rw [if_neg hz]
    have hz1 : (code5 T r T.first != 0) = true := by simpa using hz
    have hz2 : (code5 T r T.first == 0) = false := by simpa using hz
    clear hz
    go_enter Try.func202, Try.ntmps202
    go_wp2_with (go_at_call 196; refine (i_Code5 T _ _ _ (hv'.up (by repeat' (first | (with_reducible exact Up.refl _) | (with_reducible assumption) | (with_reducible refine Up.alloc ?_ _) | (with_reducible refine Up.drew ?_) | (with_reducible refine Up.grow ?_ _) | (with_reducible refine Up.setCell ?_ (by (try simp); (try omega)) _))))).mono ?_; rintro e w' ⟨rfl, hb⟩; first | (obtain ⟨x, rfl⟩ := Grow.on x hb) | (obtain ⟨x, rfl⟩ := Grow.mk' hb))
    go_ret2
    exact ⟨_, rfl, (by repeat' (first | (with_reducible exact Up.refl _) | (with_reducible assumption) | (with_reducible refine Up.alloc ?_ _) | (with_reducible refine Up.drew ?_) | (with_reducible refine Up.grow ?_ _) | (with_reducible refine Up.setCell ?_ (by (try simp); (try omega)) _))), Own.nil _ _⟩
  obtain ⟨hT, h0, h1, _, _⟩ := code5_zero.1 hz
  have q1 := hT.lo; have q2 := hT.hi; have q3 := hT.n120; have q4 := hT.n2; have q5 := hT.fin
  rw [if_pos hz]
  have hcode : ∀ w, TabAt w T (.agg #[.int .i64 T.first, .slice A T.n c]) → Calls Try.prog 196 #[.agg #[.int .i64 T.first, .slice A T.n c], .int .i64 r] w (Ret w (.int .i64 0)) := fun w h => by
    have := i_Code5 T r _ w h; rwa [hz] at this
  rw [hz]
  have HCD := Lib.hid hcode
  obtain ⟨L, hL⟩ : ∃ L : Nat, (151 - T.first).toNat = L := ⟨_, rfl⟩
  have hL1 : T.n ≤ L := by omega
  have HL := Lib.hid hL
  clear hz hcode hL
  go_enter Try.func202, Try.ntmps202
  go_wp2_with (go_at_call 196; refine (HCD.out _ (hv'.up (by repeat' (first | (with_reducible exact Up.refl _) | (with_reducible assumption) | (with_reducible refine Up.alloc ?_ _) | (with_reducible refine Up.drew ?_) | (with_reducible refine Up.grow ?_ _) | (with_reducible refine Up.setCell ?_ (by (try simp); (try omega)) _))))).mono ?_; rintro e w' ⟨rfl, hb⟩; first | (obtain ⟨x, rfl⟩ := Grow.on x hb) | (obtain ⟨x, rfl⟩ := Grow.mk' hb))
  have hwx : InW x.to w.heap.size := by have := x.size; simp at this; unfold InW; omega
  have hne : ¬ w.heap.size = x.to.heap.size := by unfold InW at hwx; omega
  have hL2 : (0 : Int) ≤ (T.n : Int) := by omega
  have hL3 : (T.n : Int) ≤ L := by omega
  go_region_held3 (fun w' => w'.cell? ⟨w.heap.size, 0, none⟩ = some (.int .i64 T.first) ∧ w'.cell? ⟨w.heap.size, 1, none⟩ = some (.slice A T.n c)) ((repeat' apply And.intro) <;> go_simp) ((go_at_call 197; refine (i_Cols hT h0 h1 _ _ (hv'.up (by repeat' (first | (with_reducible exact Up.refl _) | (with_reducible assumption) | (with_reducible refine Up.alloc ?_ _) | (with_reducible refine Up.drew ?_) | (with_reducible refine Up.grow ?_ _) | (with_reducible refine Up.setCell ?_ (by (try simp); (try omega)) _))))).mono ?_; rintro e w' ⟨vc, rfl, hb2, g, cs, rfl, hblk, hcs⟩; rw [HL.out]; obtain ⟨y, rfl⟩ := Grow.mk' ((Up.drew (Up.alloc (Up.grow (Up.refl _) x) _)).trans hb2)))
  have HC := Lib.hid hcs
  clear hcs
  have hown : Own (w.alloc (.cells #[.int .i64 T.first, .slice A T.n c] 31)) y.to (.slice (some ⟨x.to.heap.size, 0, none⟩) 0 0) [] := (Own.start (w.alloc (.cells #[.int .i64 T.first, .slice A T.n c] 31)) x.size).up ((Up.drew (Up.refl _)).trans hb2)
  go_wp2
  go_loopw [9, 27] (fun o i wr => ∃ (k : Nat) (z : Grow (w.alloc (.cells #[.int .i64 T.first, .slice A T.n c] 31))), k ≤ T.n ∧ i = .int .i64 k ∧ wr = z.to ∧ Own (w.alloc (.cells #[.int .i64 T.first, .slice A T.n c] 31)) z.to o ((List.range k).map (T.C r)) ∧ Blk z.to g 80 cs) (fun _ i _ => T.n - (intOf i).toNat)
  case atStart => exact ⟨0, y, by omega, rfl, rfl, hown, hblk⟩
  case round =>
    clear hown hblk hb hb2
    obtain ⟨k, x, hk, rfl, rfl, hown, hblk⟩ := hrel
    have HO := Lib.hid hown
    have HB := Lib.hid hblk
    have E := Lib.hid (range_snoc (T.C r) k)
    clear hown
    by_cases hlt : k < T.n
    · obtain ⟨e0, e1, e2, e3⟩ := row_at hblk (HC.out k (by rw [HL.out]; omega))
      have hgi : InW x.to g := hblk.inw
      clear hblk
      go_wp2_with (first | (go_at_call 206; refine (i_PickC _ _ _ _ _).mono ?_; rintro e w' ⟨rfl, hb3⟩; obtain ⟨u, rfl⟩ := Grow.mk' (((Up.alloc (Up.grow (Up.refl _) x) _)).trans hb3)) | (at_builtin; refine wp_push u.below (HO.out.up ((Up.alloc (Up.refl _) _).trans hb3)) rfl _ _ rfl rfl rfl (by simp; omega) ?_; intro v' y2 hown2 hg2))
      go_roundw
      case rel => exact ⟨k + 1, y2, by omega, by go_num, rfl, by rw [E.out]; exact hown2, ((HB.out.up ((Up.alloc (Up.refl _) _).trans hb3)).alloc _).push (World.ownsRow.alloc (HO.out.up ((Up.alloc (Up.refl _) _).trans hb3)) _) hg2⟩
      case measure => simp [intOf]; omega
    · clear hblk
      go_wp2
      go_ret2
      have hk2 : k = T.n := by omega
      subst hk2
      exact ⟨_, rfl, (by repeat' (first | (with_reducible exact Up.refl _) | (with_reducible assumption) | (with_reducible refine Up.alloc ?_ _) | (with_reducible refine Up.drew ?_) | (with_reducible refine Up.grow ?_ _) | (with_reducible refine Up.setCell ?_ (by (try simp); (try omega)) _))), HO.out.base (by simp)⟩
theorem i_ColumnC (T : Tab) (r : Int) (v : Value) (w : World) (hv : TabAt w T v) :
    Calls Try.prog 82 #[v, .int .i64 r] w (RetIC w (colList T r (T.C r)) (code5 T r T.first)) := by
  have hv' := hv
  obtain ⟨A, c, rfl, hc, hm, _, hI⟩ := hv
  go_enter Try.func82, Try.ntmps82
  go_wp2_with (go_at_call 202; refine (i_ByC T r _ _ (hv'.up (by repeat' (first | (with_reducible exact Up.refl _) | (with_reducible assumption) | (with_reducible refine Up.alloc ?_ _) | (with_reducible refine Up.drew ?_) | (with_reducible refine Up.grow ?_ _) | (with_reducible refine Up.setCell ?_ (by (try simp); (try omega)) _))))).mono ?_; rintro e w' ⟨v, rfl, hb, hown⟩; obtain ⟨x, rfl⟩ := Grow.mk' hb)
  go_ret2
  exact ⟨v, rfl, (by repeat' (first | (with_reducible exact Up.refl _) | (with_reducible assumption) | (with_reducible refine Up.alloc ?_ _) | (with_reducible refine Up.drew ?_) | (with_reducible refine Up.grow ?_ _) | (with_reducible refine Up.setCell ?_ (by (try simp); (try omega)) _))), hown.base (by simp)⟩
theorem i_PickM (a b c d : Int) (w : World) :
    Calls Try.prog 207 #[.agg #[.int .i64 a, .int .i64 b, .int .i64 c, .int .i64 d]] w (Ret w (.int .i64 d)) := by
  go_enter Try.func207, Try.ntmps207
  go_wp2
  go_ret
  exact ⟨rfl, (by repeat' (first | (with_reducible exact Up.refl _) | (with_reducible assumption) | (with_reducible refine Up.alloc ?_ _) | (with_reducible refine Up.drew ?_) | (with_reducible refine Up.grow ?_ _) | (with_reducible refine Up.setCell ?_ (by (try simp); (try omega)) _)))⟩

set_option maxRecDepth 100000 in
set_option maxHeartbeats 1000000 in
theorem i_ByM (T : Tab) (r : Int) (v : Value) (w : World) (hv : TabAt w T v) :
    Calls Try.prog 202 #[v, .int .i64 r, .func (.func 207) #[] #[]] w (RetIC w (colList T r (T.M r)) (code5 T r T.first)) := by
  have hv' := hv
  obtain ⟨A, c, rfl, hc, hm, _, hI⟩ := hv
  unfold colList
  by_cases hz : code5 T r T.first = 0
  case neg =>
    rw [if_neg hz]
    have hz1 : (code5 T r T.first != 0) = true := by simpa using hz
    have hz2 : (code5 T r T.first == 0) = false := by simpa using hz
    clear hz
    go_enter Try.func202, Try.ntmps202
    go_wp2_with (go_at_call 196; refine (i_Code5 T _ _ _ (hv'.up (by repeat' (first | (with_reducible exact Up.refl _) | (with_reducible assumption) | (with_reducible refine Up.alloc ?_ _) | (with_reducible refine Up.drew ?_) | (with_reducible refine Up.grow ?_ _) | (with_reducible refine Up.setCell ?_ (by (try simp); (try omega)) _))))).mono ?_; rintro e w' ⟨rfl, hb⟩; first | (obtain ⟨x, rfl⟩ := Grow.on x hb) | (obtain ⟨x, rfl⟩ := Grow.mk' hb))
    go_ret2
    exact ⟨_, rfl, (by repeat' (first | (with_reducible exact Up.refl _) | (with_reducible assumption) | (with_reducible refine Up.alloc ?_ _) | (with_reducible refine Up.drew ?_) | (with_reducible refine Up.grow ?_ _) | (with_reducible refine Up.setCell ?_ (by (try simp); (try omega)) _))), Own.nil _ _⟩
  obtain ⟨hT, h0, h1, _, _⟩ := code5_zero.1 hz
  have q1 := hT.lo; have q2 := hT.hi; have q3 := hT.n120; have q4 := hT.n2; have q5 := hT.fin
  rw [if_pos hz]
  have hcode : ∀ w, TabAt w T (.agg #[.int .i64 T.first, .slice A T.n c]) → Calls Try.prog 196 #[.agg #[.int .i64 T.first, .slice A T.n c], .int .i64 r] w (Ret w (.int .i64 0)) := fun w h => by
    have := i_Code5 T r _ w h; rwa [hz] at this
  rw [hz]
  have HCD := Lib.hid hcode
  obtain ⟨L, hL⟩ : ∃ L : Nat, (151 - T.first).toNat = L := ⟨_, rfl⟩
  have hL1 : T.n ≤ L := by omega
  have HL := Lib.hid hL
  clear hz hcode hL
  go_enter Try.func202, Try.ntmps202
  go_wp2_with (go_at_call 196; refine (HCD.out _ (hv'.up (by repeat' (first | (with_reducible exact Up.refl _) | (with_reducible assumption) | (with_reducible refine Up.alloc ?_ _) | (with_reducible refine Up.drew ?_) | (with_reducible refine Up.grow ?_ _) | (with_reducible refine Up.setCell ?_ (by (try simp); (try omega)) _))))).mono ?_; rintro e w' ⟨rfl, hb⟩; first | (obtain ⟨x, rfl⟩ := Grow.on x hb) | (obtain ⟨x, rfl⟩ := Grow.mk' hb))
  have hwx : InW x.to w.heap.size := by have := x.size; simp at this; unfold InW; omega
  have hne : ¬ w.heap.size = x.to.heap.size := by unfold InW at hwx; omega
  have hL2 : (0 : Int) ≤ (T.n : Int) := by omega
  have hL3 : (T.n : Int) ≤ L := by omega
  go_region_held3 (fun w' => w'.cell? ⟨w.heap.size, 0, none⟩ = some (.int .i64 T.first) ∧ w'.cell? ⟨w.heap.size, 1, none⟩ = some (.slice A T.n c)) ((repeat' apply And.intro) <;> go_simp) ((go_at_call 197; refine (i_Cols hT h0 h1 _ _ (hv'.up (by repeat' (first | (with_reducible exact Up.refl _) | (with_reducible assumption) | (with_reducible refine Up.alloc ?_ _) | (with_reducible refine Up.drew ?_) | (with_reducible refine Up.grow ?_ _) | (with_reducible refine Up.setCell ?_ (by (try simp); (try omega)) _))))).mono ?_; rintro e w' ⟨vc, rfl, hb2, g, cs, rfl, hblk, hcs⟩; rw [HL.out]; obtain ⟨y, rfl⟩ := Grow.mk' ((Up.drew (Up.alloc (Up.grow (Up.refl _) x) _)).trans hb2)))
  have HC := Lib.hid hcs
  clear hcs
  have hown : Own (w.alloc (.cells #[.int .i64 T.first, .slice A T.n c] 31)) y.to (.slice (some ⟨x.to.heap.size, 0, none⟩) 0 0) [] := (Own.start (w.alloc (.cells #[.int .i64 T.first, .slice A T.n c] 31)) x.size).up ((Up.drew (Up.refl _)).trans hb2)
  go_wp2
  go_loopw [9, 27] (fun o i wr => ∃ (k : Nat) (z : Grow (w.alloc (.cells #[.int .i64 T.first, .slice A T.n c] 31))), k ≤ T.n ∧ i = .int .i64 k ∧ wr = z.to ∧ Own (w.alloc (.cells #[.int .i64 T.first, .slice A T.n c] 31)) z.to o ((List.range k).map (T.M r)) ∧ Blk z.to g 80 cs) (fun _ i _ => T.n - (intOf i).toNat)
  case atStart => exact ⟨0, y, by omega, rfl, rfl, hown, hblk⟩
  case round =>
    clear hown hblk hb hb2
    obtain ⟨k, x, hk, rfl, rfl, hown, hblk⟩ := hrel
    have HO := Lib.hid hown
    have HB := Lib.hid hblk
    have E := Lib.hid (range_snoc (T.M r) k)
    clear hown
    by_cases hlt : k < T.n
    · obtain ⟨e0, e1, e2, e3⟩ := row_at hblk (HC.out k (by rw [HL.out]; omega))
      have hgi : InW x.to g := hblk.inw
      clear hblk
      go_wp2_with (first | (go_at_call 207; refine (i_PickM _ _ _ _ _).mono ?_; rintro e w' ⟨rfl, hb3⟩; obtain ⟨u, rfl⟩ := Grow.mk' (((Up.alloc (Up.grow (Up.refl _) x) _)).trans hb3)) | (at_builtin; refine wp_push u.below (HO.out.up ((Up.alloc (Up.refl _) _).trans hb3)) rfl _ _ rfl rfl rfl (by simp; omega) ?_; intro v' y2 hown2 hg2))
      go_roundw
      case rel => exact ⟨k + 1, y2, by omega, by go_num, rfl, by rw [E.out]; exact hown2, ((HB.out.up ((Up.alloc (Up.refl _) _).trans hb3)).alloc _).push (World.ownsRow.alloc (HO.out.up ((Up.alloc (Up.refl _) _).trans hb3)) _) hg2⟩
      case measure => simp [intOf]; omega
    · clear hblk
      go_wp2
      go_ret2
      have hk2 : k = T.n := by omega
      subst hk2
      exact ⟨_, rfl, (by repeat' (first | (with_reducible exact Up.refl _) | (with_reducible assumption) | (with_reducible refine Up.alloc ?_ _) | (with_reducible refine Up.drew ?_) | (with_reducible refine Up.grow ?_ _) | (with_reducible refine Up.setCell ?_ (by (try simp); (try omega)) _))), HO.out.base (by simp)⟩
theorem i_ColumnM (T : Tab) (r : Int) (v : Value) (w : World) (hv : TabAt w T v) :
    Calls Try.prog 84 #[v, .int .i64 r] w (RetIC w (colList T r (T.M r)) (code5 T r T.first)) := by
  have hv' := hv
  obtain ⟨A, c, rfl, hc, hm, _, hI⟩ := hv
  go_enter Try.func84, Try.ntmps84
  go_wp2_with (go_at_call 202; refine (i_ByM T r _ _ (hv'.up (by repeat' (first | (with_reducible exact Up.refl _) | (with_reducible assumption) | (with_reducible refine Up.alloc ?_ _) | (with_reducible refine Up.drew ?_) | (with_reducible refine Up.grow ?_ _) | (with_reducible refine Up.setCell ?_ (by (try simp); (try omega)) _))))).mono ?_; rintro e w' ⟨v, rfl, hb, hown⟩; obtain ⟨x, rfl⟩ := Grow.mk' hb)
  go_ret2
  exact ⟨v, rfl, (by repeat' (first | (with_reducible exact Up.refl _) | (with_reducible assumption) | (with_reducible refine Up.alloc ?_ _) | (with_reducible refine Up.drew ?_) | (with_reducible refine Up.grow ?_ _) | (with_reducible refine Up.setCell ?_ (by (try simp); (try omega)) _))), hown.base (by simp)⟩
end Go.Proofs.Ytdeoampkbbbleaa
