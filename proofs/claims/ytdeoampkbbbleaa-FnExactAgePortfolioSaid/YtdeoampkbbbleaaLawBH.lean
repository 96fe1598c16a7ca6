/- Contracts of the laws' helpers over bases and policies: size, copy, equal, mark. Conditions: at most 1048576 numbers. -/
import Derived.Test.YtdeoampkbbbleaaLawT
import Derived.Test.YtdeoampkbbbleaaPol
namespace Go.Proofs.Ytdeoampkbbbleaa
open Go.RowKit Pu

/-- The value v is the basis of T and r, its slice made since w. -/
def BasOwn (w w' : World) (T : Tab) (r : Int) (v : Value) : Prop := T.n ≤ 1048576 ∧ ∃ A c, v = .agg #[.int .i64 T.first, .slice A T.n c, .int .i64 r] ∧ Own w w' (.slice A T.n c) ((List.range T.n).map T.f)
theorem BasOwn.up {w w1 w2 : World} {T r v} (h : BasOwn w w1 T r v) (u : Up w1 w2) : BasOwn w w2 T r v := by
  obtain ⟨h0, A, c, h1, h2⟩ := h
  exact ⟨h0, A, c, h1, h2.up u⟩
theorem BasOwn.bas {w w' : World} {T r v} (h : BasOwn w w' T r v) : BasAt w' T r v := by
  obtain ⟨h0, A, c, rfl, h2⟩ := h
  obtain ⟨A', c', e, h3, h4, h5, h6⟩ := TabOwn.tab ⟨h0, A, c, rfl, h2⟩
  injection e with e
  have e1 := congrArg (fun a => a[1]?) e
  simp at e1
  obtain ⟨rfl, rfl⟩ := e1
  exact ⟨A, c, rfl, h3, h4, h5, h6⟩
/-- A basis is returned, its slice new. -/
def RetB (w : World) (T : Tab) (r : Int) (e : Ending) (w' : World) : Prop := ∃ v, e = .returned v ∧ Up w w' ∧ BasOwn w w' T r v

theorem l_SzB (T : Tab) (r : Int) (A : Option Addr) (c : Nat) (hn : T.n ≤ 9223372036854775807) (left : Int) (h0 : 0 ≤ left) (h1 : left ≤ 1048576) (w : World) :
    Calls Try.prog 18 #[.agg #[.int .i64 T.first, .slice A T.n c, .int .i64 r], .int .i64 left] w (Ret w (.int .i64 (if left < T.n then -1 else left - T.n))) := by
  by_cases h : left < T.n
  · rw [if_pos h]
    have HZ : ∀ w, Calls Try.prog 140 #[.agg #[.int .i64 T.first, .slice A T.n c], .int .i64 left] w (Ret w (.int .i64 (-1))) := fun w => by have h2 := l_SzT T A c hn left h0 h1 w; rwa [if_pos h] at h2
    go_enter Try.func18, Try.ntmps18
    go_wp2_with (go_at_call 140; refine (HZ _).mono ?_; rintro e w' ⟨rfl, hb⟩; first | (obtain ⟨x, rfl⟩ := Grow.on x hb) | (obtain ⟨x, rfl⟩ := Grow.mk' hb))
    go_ret
    exact ⟨rfl, (by repeat' (first | (with_reducible exact Up.refl _) | (with_reducible assumption) | (with_reducible refine Up.alloc ?_ _) | (with_reducible refine Up.drew ?_) | (with_reducible refine Up.grow ?_ _) | (with_reducible refine Up.setCell ?_ (by (try simp); (try omega)) _)))⟩
  · rw [if_neg h]
    have HZ : ∀ w, Calls Try.prog 140 #[.agg #[.int .i64 T.first, .slice A T.n c], .int .i64 left] w (Ret w (.int .i64 (left - T.n))) := fun w => by have h2 := l_SzT T A c hn left h0 h1 w; rwa [if_neg h] at h2
    go_enter Try.func18, Try.ntmps18
    go_wp2_with (go_at_call 140; refine (HZ _).mono ?_; rintro e w' ⟨rfl, hb⟩; first | (obtain ⟨x, rfl⟩ := Grow.on x hb) | (obtain ⟨x, rfl⟩ := Grow.mk' hb))
    go_ret
    exact ⟨rfl, (by repeat' (first | (with_reducible exact Up.refl _) | (with_reducible assumption) | (with_reducible refine Up.alloc ?_ _) | (with_reducible refine Up.drew ?_) | (with_reducible refine Up.grow ?_ _) | (with_reducible refine Up.setCell ?_ (by (try simp); (try omega)) _)))⟩

set_option maxHeartbeats 2000000 in
theorem l_CopyB (T : Tab) (r : Int) (hn : T.n ≤ 1048576) (v : Value) (w : World) (hv : BasAt w T r v) :
    Calls Try.prog 21 #[v] w (RetB w T r) := by
  (have hv' := hv; obtain ⟨A, c, rfl, hc, hm, hbig, hI⟩ := hv; have ht : TabAt w T (.agg #[.int .i64 T.first, .slice A T.n c]) := ⟨A, c, rfl, hc, hm, hbig, hI⟩)
  go_enter Try.func21, Try.ntmps21
  go_wp2_with (go_at_call 143; refine (l_CopyT T hn _ _ (ht.up (by repeat' (first | (with_reducible exact Up.refl _) | (with_reducible assumption) | (with_reducible refine Up.alloc ?_ _) | (with_reducible refine Up.drew ?_) | (with_reducible refine Up.grow ?_ _) | (with_reducible refine Up.setCell ?_ (by (try simp); (try omega)) _))))).mono ?_; rintro e w' ⟨v, rfl, hb, _, A', c', rfl, hown⟩; obtain ⟨x, rfl⟩ := Grow.mk' hb)
  refine bodyPost_ret (v := .agg #[.int .i64 T.first, .slice A' T.n c', .int .i64 r]) (by simp [results, Try.results21, go_sem]) rfl ⟨_, rfl, (by repeat' (first | (with_reducible exact Up.refl _) | (with_reducible assumption) | (with_reducible refine Up.alloc ?_ _) | (with_reducible refine Up.drew ?_) | (with_reducible refine Up.grow ?_ _) | (with_reducible refine Up.setCell ?_ (by (try simp); (try omega)) _))), hn, A', c', rfl, ?_⟩
  exact ((((((hown.set_old (by (try simp); (try omega)) _).set_old (by (try simp); (try omega)) _).set_old (by (try simp); (try omega)) _).set_old (by (try simp); (try omega)) _).set_old (by (try simp); (try omega)) _).set_old (by (try simp); (try omega)) _).base (by (try simp); (try omega))

theorem l_CopyPol (a0 a1 a2 a3 a4 : Int) (w : World) : Calls Try.prog 243 #[.agg #[.int .i64 (a0), .int .i64 (a1), .int .i64 (a2), .int .i64 (a3), .int .i64 (a4)]] w (Ret w (.agg #[.int .i64 (a0), .int .i64 (a1), .int .i64 (a2), .int .i64 (a3), .int .i64 (a4)])) := by
  go_enter Try.func243, Try.ntmps243
  go_wp2
  refine bodyPost_ret (v := .agg #[.int .i64 (a0), .int .i64 (a1), .int .i64 (a2), .int .i64 (a3), .int .i64 (a4)]) (by simp [results, Try.results243, go_sem]) rfl ⟨rfl, (by repeat' (first | (with_reducible exact Up.refl _) | (with_reducible assumption) | (with_reducible refine Up.alloc ?_ _) | (with_reducible refine Up.drew ?_) | (with_reducible refine Up.grow ?_ _) | (with_reducible refine Up.setCell ?_ (by (try simp); (try omega)) _)))⟩

theorem l_EqB (T : Tab) (r : Int) (v1 v2 : Value) (w : World) (h1 : BasAt w T r v1) (h2 : BasAt w T r v2) :
    Calls Try.prog 24 #[v1, v2] w (Ret w (.bool true)) := by
  obtain ⟨A1, c1, rfl, p1, p2, p3, p4⟩ := h1
  obtain ⟨A2, c2, rfl, r1, r2, r3, r4⟩ := h2
  have t1 : TabAt w T (.agg #[.int .i64 T.first, .slice A1 T.n c1]) := ⟨A1, c1, rfl, p1, p2, p3, p4⟩
  have t2 : TabAt w T (.agg #[.int .i64 T.first, .slice A2 T.n c2]) := ⟨A2, c2, rfl, r1, r2, r3, r4⟩
  go_enter Try.func24, Try.ntmps24
  go_wp2_with (first | (go_at_call 148; (with_reducible refine (l_EqT T _ _ _ (t1.up (by repeat' (first | (with_reducible exact Up.refl _) | (with_reducible assumption) | (with_reducible refine Up.alloc ?_ _) | (with_reducible refine Up.drew ?_) | (with_reducible refine Up.grow ?_ _) | (with_reducible refine Up.setCell ?_ (by (try simp); (try omega)) _)))) (t2.up (by repeat' (first | (with_reducible exact Up.refl _) | (with_reducible assumption) | (with_reducible refine Up.alloc ?_ _) | (with_reducible refine Up.drew ?_) | (with_reducible refine Up.grow ?_ _) | (with_reducible refine Up.setCell ?_ (by (try simp); (try omega)) _))))).mono ?_); rintro e w' ⟨rfl, hb⟩; first | (obtain ⟨x, rfl⟩ := Grow.on x hb) | (obtain ⟨x, rfl⟩ := Grow.mk' hb)) | (go_at_call 142; (with_reducible refine (s_In _ _ _ _).mono ?_); rintro e w' ⟨rfl, rfl⟩) | (go_at_call 186; (with_reducible refine (i_In _ _ _ _).mono ?_); rintro e w' ⟨rfl, rfl⟩) | (go_at_call 222; (with_reducible refine (s_Rate _ _).mono ?_); rintro e w' ⟨rfl, rfl⟩) | (go_at_call 165; (with_reducible refine (i_Rate _ _).mono ?_); rintro e w' ⟨rfl, rfl⟩) | (go_at_call 262; (with_reducible refine (i_Years _ _).mono ?_); rintro e w' ⟨rfl, rfl⟩) | (go_at_call 227; (with_reducible refine (s_Amount6 _ _).mono ?_); rintro e w' ⟨rfl, rfl⟩) | (go_at_call 236; (with_reducible refine (s_Sum7 _ _).mono ?_); rintro e w' ⟨rfl, rfl⟩) | ((first | with_reducible refine wp_region_in x (by kernel_rfl) (by kernel_rfl) ?_ | with_reducible refine wp_region_here (by kernel_rfl) (by kernel_rfl) ?_); (repeat (go_big_quiet_step ((first | (go_at_call 148; with_reducible exact Ret.grow _ (l_EqT T _ _ _ (t1.up (by repeat' (first | (with_reducible exact Up.refl _) | (with_reducible assumption) | (with_reducible refine Up.alloc ?_ _) | (with_reducible refine Up.drew ?_) | (with_reducible refine Up.grow ?_ _) | (with_reducible refine Up.setCell ?_ (by (try simp); (try omega)) _)))) (t2.up (by repeat' (first | (with_reducible exact Up.refl _) | (with_reducible assumption) | (with_reducible refine Up.alloc ?_ _) | (with_reducible refine Up.drew ?_) | (with_reducible refine Up.grow ?_ _) | (with_reducible refine Up.setCell ?_ (by (try simp); (try omega)) _)))))) | (go_at_call 142; with_reducible exact Ret.same _ (s_In _ _ _ _)) | (go_at_call 186; with_reducible exact Ret.same _ (i_In _ _ _ _)) | (go_at_call 222; with_reducible exact Ret.same _ (s_Rate _ _)) | (go_at_call 165; with_reducible exact Ret.same _ (i_Rate _ _)) | (go_at_call 262; with_reducible exact Ret.same _ (i_Years _ _)) | (go_at_call 227; with_reducible exact Ret.same _ (s_Amount6 _ _)) | (go_at_call 236; with_reducible exact Ret.same _ (s_Sum7 _ _)))))); refine wpQuiet_nil ?_; intro w' hw'; obtain ⟨x, rfl⟩ := hw'))
  go_ret
  exact ⟨rfl, (by repeat' (first | (with_reducible exact Up.refl _) | (with_reducible assumption) | (with_reducible refine Up.alloc ?_ _) | (with_reducible refine Up.drew ?_) | (with_reducible refine Up.grow ?_ _) | (with_reducible refine Up.setCell ?_ (by (try simp); (try omega)) _)))⟩
end Go.Proofs.Ytdeoampkbbbleaa
