/- Contracts of the laws' helpers over life tables: size, copy, equal, mark. Conditions: at most 1048576 numbers. -/
import Derived.Test.YtdeoampkbbbleaaOwn
namespace Go.Proofs.Ytdeoampkbbbleaa
open Go.RowKit Pu

/-- The value v is the life table T, its slice made since w. -/
def TabOwn (w w' : World) (T : Tab) (v : Value) : Prop := T.n ≤ 1048576 ∧ ∃ A c, v = .agg #[.int .i64 T.first, .slice A T.n c] ∧ Own w w' (.slice A T.n c) ((List.range T.n).map T.f)
theorem TabOwn.up {w w1 w2 : World} {T v} (h : TabOwn w w1 T v) (u : Up w1 w2) : TabOwn w w2 T v := by
  obtain ⟨h0, A, c, h1, h2⟩ := h
  exact ⟨h0, A, c, h1, h2.up u⟩
theorem TabOwn.tab {w w' : World} {T v} (h : TabOwn w w' T v) : TabAt w' T v := by
  obtain ⟨h0, A, c, rfl, h2⟩ := h
  obtain ⟨A', c', h3, h4, h5, h6⟩ := h2.rd
  have hl : ((List.range T.n).map T.f).length = T.n := by simp
  rw [hl] at h3 h4 h6
  injection h3 with e1 e2 e3
  subst e1; subst e3
  refine ⟨A, c, rfl, h4, h5, h0, fun i hi => ?_⟩
  obtain ⟨b, off, e, hb, hc⟩ := h6 i hi
  refine ⟨b, off, e, hb, ?_⟩
  rw [hc]; simp [hi]
/-- A table is returned, its slice new. -/
def RetT (w : World) (T : Tab) (e : Ending) (w' : World) : Prop := ∃ v, e = .returned v ∧ Up w w' ∧ TabOwn w w' T v

theorem l_SzT (T : Tab) (A : Option Addr) (c : Nat) (hn : T.n ≤ 9223372036854775807) (left : Int) (h0 : 0 ≤ left) (h1 : left ≤ 1048576) (w : World) :
    Calls Try.prog 140 #[.agg #[.int .i64 T.first, .slice A T.n c], .int .i64 left] w (Ret w (.int .i64 (if left < T.n then -1 else left - T.n))) := by
  by_cases h : left < T.n
  · rw [if_pos h]
    go_enter Try.func140, Try.ntmps140
    go_wp2_with (go_at_call 242; refine (l_Sz _ _ _ hn _ h0 h1 _).mono ?_; rintro e w' ⟨rfl, rfl⟩)
    go_ret
    exact ⟨rfl, (by repeat' (first | (with_reducible exact Up.refl _) | (with_reducible assumption) | (with_reducible refine Up.alloc ?_ _) | (with_reducible refine Up.drew ?_) | (with_reducible refine Up.grow ?_ _) | (with_reducible refine Up.setCell ?_ (by (try simp); (try omega)) _)))⟩
  · rw [if_neg h]
    go_enter Try.func140, Try.ntmps140
    go_wp2_with (go_at_call 242; refine (l_Sz _ _ _ hn _ h0 h1 _).mono ?_; rintro e w' ⟨rfl, rfl⟩)
    go_ret
    exact ⟨rfl, (by repeat' (first | (with_reducible exact Up.refl _) | (with_reducible assumption) | (with_reducible refine Up.alloc ?_ _) | (with_reducible refine Up.drew ?_) | (with_reducible refine Up.grow ?_ _) | (with_reducible refine Up.setCell ?_ (by (try simp); (try omega)) _)))⟩

set_option maxHeartbeats 400000 in
theorem l_CopyT (T : Tab) (hn : T.n ≤ 1048576) (v : Value) (w : World) (hv : TabAt w T v) :
    Calls Try.prog 143 #[v] w (RetT w T) := by
  obtain ⟨A, c, rfl, hc, hm, hbig, hI⟩ := hv
  go_enter Try.func143, Try.ntmps143
  go_wp2_with (go_at_call 29; refine (l_Copy _ _ _ T.f hn _ (hI.up (by repeat' (first | (with_reducible exact Up.refl _) | (with_reducible assumption) | (with_reducible refine Up.alloc ?_ _) | (with_reducible refine Up.drew ?_) | (with_reducible refine Up.grow ?_ _) | (with_reducible refine Up.setCell ?_ (by (try simp); (try omega)) _))))).mono ?_; rintro e w' ⟨v, rfl, hb, hown⟩; obtain ⟨A', c', rfl, hc', hm', _⟩ := hown.form; obtain ⟨x, rfl⟩ := Grow.mk' hb)
  refine bodyPost_ret (v := .agg #[.int .i64 T.first, .slice A' T.n c']) (by simp [results, Try.results143, go_sem]) rfl ⟨_, rfl, (by repeat' (first | (with_reducible exact Up.refl _) | (with_reducible assumption) | (with_reducible refine Up.alloc ?_ _) | (with_reducible refine Up.drew ?_) | (with_reducible refine Up.grow ?_ _) | (with_reducible refine Up.setCell ?_ (by (try simp); (try omega)) _))), hn, A', c', rfl, ?_⟩
  have hl : ((List.range T.n).map T.f).length = T.n := by simp
  rw [hl] at hown
  exact (((hown.set_old (by (try simp); (try omega)) _).set_old (by (try simp); (try omega)) _).set_old (by (try simp); (try omega)) _).base (by (try simp); (try omega))

theorem l_EqT (T : Tab) (v1 v2 : Value) (w : World) (h1 : TabAt w T v1) (h2 : TabAt w T v2) :
    Calls Try.prog 148 #[v1, v2] w (Ret w (.bool true)) := by
  have rd : ∀ w A c, T.n ≤ c → c ≤ 9223372036854775807 → Ints w A T.n T.f → Rd w (.slice A T.n c) ((List.range T.n).map T.f) := fun w A c h1 h2 h => by
    have hl : ((List.range T.n).map T.f).length = T.n := by simp
    refine ⟨A, c, by rw [hl], by rw [hl]; exact h1, h2, fun i hi => ?_⟩
    rw [hl] at hi
    obtain ⟨b, off, e, hb, hc⟩ := h i hi
    exact ⟨b, off, e, hb, by rw [hc]; simp [hi]⟩
  obtain ⟨A1, c1, rfl, p1, p2, p3, p4⟩ := h1
  obtain ⟨A2, c2, rfl, r1, r2, r3, r4⟩ := h2
  have k1 := rd _ _ _ p1 p2 p4
  have k2 := rd _ _ _ r1 r2 r4
  clear rd p4 r4
  go_enter Try.func148, Try.ntmps148
  go_wp2_with (go_at_call 31; refine (l_Eq _ _ ((List.range T.n).map T.f) (by simp; omega) _ (k1.up (by repeat' (first | (with_reducible exact Up.refl _) | (with_reducible assumption) | (with_reducible refine Up.alloc ?_ _) | (with_reducible refine Up.drew ?_) | (with_reducible refine Up.grow ?_ _) | (with_reducible refine Up.setCell ?_ (by (try simp); (try omega)) _)))) (k2.up (by repeat' (first | (with_reducible exact Up.refl _) | (with_reducible assumption) | (with_reducible refine Up.alloc ?_ _) | (with_reducible refine Up.drew ?_) | (with_reducible refine Up.grow ?_ _) | (with_reducible refine Up.setCell ?_ (by (try simp); (try omega)) _))))).mono ?_; rintro e w' ⟨rfl, hb⟩; first | (obtain ⟨x, rfl⟩ := Grow.on x hb) | (obtain ⟨x, rfl⟩ := Grow.mk' hb))
  go_ret
  exact ⟨rfl, (by repeat' (first | (with_reducible exact Up.refl _) | (with_reducible assumption) | (with_reducible refine Up.alloc ?_ _) | (with_reducible refine Up.drew ?_) | (with_reducible refine Up.grow ?_ _) | (with_reducible refine Up.setCell ?_ (by (try simp); (try omega)) _)))⟩

/-- What mark leaves of a table. -/
def RetMarkT (w : World) (v : Value) (k : Int) (n : Nat) (e : Ending) (w' : World) : Prop := e = .returned (.int .i64 (k + n)) ∧ ∃ A c f, v = .agg #[.int .i64 f, .slice A n c] ∧ w.grownBy w' (Value.slice A n c).ownBlock

theorem Own.far {W w w' : World} {v xs row} (h : Own W w v xs) (hg : w.grownBy w' row) (hne : ∀ k, row = some k → v.ownBlock ≠ some k) : Own W w' v xs := by
  refine World.ownsRow.kept h hg ?_
  cases hr : row with
  | none => cases v.ownBlock <;> simp
  | some k => exact .inr (hne k hr)
theorem Up.far {w w1 w2 : World} {row} (h : Up w w1) (hg : w1.grownBy w2 row) (hr : ∀ k, row = some k → w.heap.size ≤ k) : Up w w2 := Below.grown h hg h.size hr
theorem blk_far {w w' : World} {g : Nat} {t : TypeId} {cs : Array Value} {row} (h : w.heap[g]? = some (.cells cs t (0, 0))) (hg : w.grownBy w' row) (hr : ∀ k, row = some k → k ≠ g) : w'.heap[g]? = some (.cells cs t (0, 0)) :=
  (hg.block g (Array.getElem?_eq_some_iff.1 h).1 (fun e => hr g e.symm rfl)).trans h

theorem l_MarkT (T : Tab) (v : Value) (k0 : Int) (h0 : 0 ≤ k0) (h1 : k0 ≤ 1048577) (w0 w : World) (h : TabOwn w0 w T v) :
    Calls Try.prog 156 #[v, .int .i64 k0] w (RetMarkT w v k0 T.n) := by
  obtain ⟨hn, A, c, rfl, hown⟩ := h
  go_enter Try.func156, Try.ntmps156
  go_wp2_with (go_at_call 34; refine (l_Mark _ _ (by simp; omega) _ h0 h1 w0 _ (hown.up (by repeat' (first | (with_reducible exact Up.refl _) | (with_reducible assumption) | (with_reducible refine Up.alloc ?_ _) | (with_reducible refine Up.drew ?_) | (with_reducible refine Up.grow ?_ _) | (with_reducible refine Up.setCell ?_ (by (try simp); (try omega)) _))))).mono ?_; rintro e w' ⟨rfl, _, hg⟩)
  go_ret
  exact ⟨rfl, A, c, _, rfl, (World.grownBy_alloc w _ _).trans hg⟩
end Go.Proofs.Ytdeoampkbbbleaa
