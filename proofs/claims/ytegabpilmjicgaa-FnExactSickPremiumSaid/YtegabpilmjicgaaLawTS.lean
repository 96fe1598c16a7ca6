/- Contracts of the laws' helpers over sickness tables: size, copy, equal. Conditions: at most 1048576 numbers. -/
import Derived.Test.YtegabpilmjicgaaLawT
namespace Go.Proofs.Ytegabpilmjicgaa
open Go.RowKit Pu

theorem l_SzS (T : Tab) (A : Option Addr) (c : Nat) (hn : T.n ≤ 9223372036854775807) (left : Int) (h0 : 0 ≤ left) (h1 : left ≤ 1048576) (w : World) :
    Calls Try.prog 70 #[.agg #[.int .i64 T.first, .slice A T.n c], .int .i64 left] w (Ret w (.int .i64 (if left < T.n then -1 else left - T.n))) := by
  by_cases h : left < T.n
  · rw [if_pos h]
    go_enter Try.func70, Try.ntmps70
    go_wp2_with (go_at_call 79; refine (l_Sz _ _ _ hn _ h0 h1 _).mono ?_; rintro e w' ⟨rfl, rfl⟩)
    go_ret
    exact ⟨rfl, (by repeat' (first | (with_reducible exact Up.refl _) | (with_reducible assumption) | (with_reducible refine Up.alloc ?_ _) | (with_reducible refine Up.drew ?_) | (with_reducible refine Up.grow ?_ _) | (with_reducible refine Up.setCell ?_ (by (try simp); (try omega)) _)))⟩
  · rw [if_neg h]
    go_enter Try.func70, Try.ntmps70
    go_wp2_with (go_at_call 79; refine (l_Sz _ _ _ hn _ h0 h1 _).mono ?_; rintro e w' ⟨rfl, rfl⟩)
    go_ret
    exact ⟨rfl, (by repeat' (first | (with_reducible exact Up.refl _) | (with_reducible assumption) | (with_reducible refine Up.alloc ?_ _) | (with_reducible refine Up.drew ?_) | (with_reducible refine Up.grow ?_ _) | (with_reducible refine Up.setCell ?_ (by (try simp); (try omega)) _)))⟩

set_option maxHeartbeats 400000 in
theorem l_CopyS (T : Tab) (hn : T.n ≤ 1048576) (v : Value) (w : World) (hv : TabAt w T v) :
    Calls Try.prog 72 #[v] w (RetT w T) := by
  obtain ⟨A, c, rfl, hc, hm, hbig, hI⟩ := hv
  go_enter Try.func72, Try.ntmps72
  go_wp2_with (go_at_call 81; refine (l_Copy _ _ _ T.f hn _ (hI.up (by repeat' (first | (with_reducible exact Up.refl _) | (with_reducible assumption) | (with_reducible refine Up.alloc ?_ _) | (with_reducible refine Up.drew ?_) | (with_reducible refine Up.grow ?_ _) | (with_reducible refine Up.setCell ?_ (by (try simp); (try omega)) _))))).mono ?_; rintro e w' ⟨v, rfl, hb, hown⟩; obtain ⟨A', c', rfl, hc', hm', _⟩ := hown.form; obtain ⟨x, rfl⟩ := Grow.mk' hb)
  refine bodyPost_ret (v := .agg #[.int .i64 T.first, .slice A' T.n c']) (by simp [results, Try.results72, go_sem]) rfl ⟨_, rfl, (by repeat' (first | (with_reducible exact Up.refl _) | (with_reducible assumption) | (with_reducible refine Up.alloc ?_ _) | (with_reducible refine Up.drew ?_) | (with_reducible refine Up.grow ?_ _) | (with_reducible refine Up.setCell ?_ (by (try simp); (try omega)) _))), hn, A', c', rfl, ?_⟩
  have hl : ((List.range T.n).map T.f).length = T.n := by simp
  rw [hl] at hown
  exact (((hown.set_old (by (try simp); (try omega)) _).set_old (by (try simp); (try omega)) _).set_old (by (try simp); (try omega)) _).base (by (try simp); (try omega))

theorem l_EqS (T : Tab) (v1 v2 : Value) (w : World) (h1 : TabAt w T v1) (h2 : TabAt w T v2) :
    Calls Try.prog 74 #[v1, v2] w (Ret w (.bool true)) := by
  have rd : ∀ w A c, T.n ≤ c → c ≤ 9223372036854775807 → Ints w A T.n T.f → Rd w (.slice A T.n c) ((List.range T.n).map T.f) := fun w A c h1 h2 h => by
    have hl : ((List.range T.n).map T.f).length = T.n := by simp
    refine ⟨A, c, by rw [hl], by rw [hl]; exact h1, h2, fun i hi => ?_⟩
    rw [hl] at hi
    obtain ⟨b, off, e, hb, hc⟩ := h i hi
    exact ⟨b, off, e, hb, by rw [hc]; simp [hi]⟩
  obtain ⟨A1, c1, rfl, p1, p2, p3, p4⟩ := h1
  obtain ⟨A2, c2, rfl, r1, r2, r3, r4⟩ := h2
  have k1 := rd _ _ _ p1 p2 p4
  have k2 := rd _ _ _ r1 r2 r4
  clear rd p4 r4
  go_enter Try.func74, Try.ntmps74
  go_wp2_with (go_at_call 29; refine (l_Eq _ _ ((List.range T.n).map T.f) (by simp; omega) _ (k1.up (by repeat' (first | (with_reducible exact Up.refl _) | (with_reducible assumption) | (with_reducible refine Up.alloc ?_ _) | (with_reducible refine Up.drew ?_) | (with_reducible refine Up.grow ?_ _) | (with_reducible refine Up.setCell ?_ (by (try simp); (try omega)) _)))) (k2.up (by repeat' (first | (with_reducible exact Up.refl _) | (with_reducible assumption) | (with_reducible refine Up.alloc ?_ _) | (with_reducible refine Up.drew ?_) | (with_reducible refine Up.grow ?_ _) | (with_reducible refine Up.setCell ?_ (by (try simp); (try omega)) _))))).mono ?_; rintro e w' ⟨rfl, hb⟩; first | (obtain ⟨x, rfl⟩ := Grow.on x hb) | (obtain ⟨x, rfl⟩ := Grow.mk' hb))
  go_ret
  exact ⟨rfl, (by repeat' (first | (with_reducible exact Up.refl _) | (with_reducible assumption) | (with_reducible refine Up.alloc ?_ _) | (with_reducible refine Up.drew ?_) | (with_reducible refine Up.grow ?_ _) | (with_reducible refine Up.setCell ?_ (by (try simp); (try omega)) _)))⟩

end Go.Proofs.Ytegabpilmjicgaa
