/- Contracts of the codes of a table, a rate, an age: the reference's l05Code, the program's checkTable. Condition: the slice reads as the table's numbers. -/
import Derived.Test.YtdeoampkbbbleaaValid
namespace Go.Proofs.Ytdeoampkbbbleaa
open Go.RowKit Pu

open Classical in
/-- The code of a table, a rate and an age. -/
noncomputable def code5 (T : Tab) (r age : Int) : Int := if T.Ok then (if 0 ≤ r ∧ r ≤ 200 ∧ T.first ≤ age ∧ age ≤ 150 then 0 else 2) else 1
theorem code5_zero {T : Tab} {r age : Int} : code5 T r age = 0 ↔ T.Ok ∧ 0 ≤ r ∧ r ≤ 200 ∧ T.first ≤ age ∧ age ≤ 150 := by
  unfold code5; split
  · split <;> simp_all
  · simp_all
theorem code5_bad {T : Tab} {r age : Int} (h : ¬ T.Ok) : code5 T r age = 1 := by unfold code5; rw [if_neg h]
theorem code5_range {T : Tab} {r age : Int} (h : T.Ok) (h2 : ¬ (0 ≤ r ∧ r ≤ 200 ∧ T.first ≤ age ∧ age ≤ 150)) : code5 T r age = 2 := by unfold code5; rw [if_pos h, if_neg h2]
theorem code5_ok {T : Tab} {r age : Int} (h : T.Ok) (h2 : 0 ≤ r ∧ r ≤ 200 ∧ T.first ≤ age ∧ age ≤ 150) : code5 T r age = 0 := by unfold code5; rw [if_pos h, if_pos h2]

theorem s_Code5 (T : Tab) (r age : Int) (v : Value) (w : World) (hv : TabAt w T v) :
    Calls Try.prog 198 #[v, .int .i64 r, .int .i64 age] w (Ret w (.int .i64 (code5 T r age))) := by
  have hv' := hv
  obtain ⟨A, c, rfl, hc, hm, _, hI⟩ := hv
  by_cases hT : T.Ok
  case neg =>
    rw [code5_bad hT]
    have hb := (Tab.okB_false T).2 hT
    go_enter Try.func198, Try.ntmps198
    go_wp2_with (go_at_call 221; refine (s_Valid T false hb _ _ (hv'.up (by repeat' (first | (with_reducible exact Up.refl _) | (with_reducible assumption) | (with_reducible refine Up.alloc ?_ _) | (with_reducible refine Up.drew ?_) | (with_reducible refine Up.grow ?_ _) | (with_reducible refine Up.setCell ?_ (by (try simp); (try omega)) _))))).mono ?_; rintro e w' ⟨rfl, hb⟩; first | (obtain ⟨x, rfl⟩ := Grow.on x hb) | (obtain ⟨x, rfl⟩ := Grow.mk' hb))
    go_ret
    exact ⟨rfl, (by repeat' (first | (with_reducible exact Up.refl _) | (with_reducible assumption) | (with_reducible refine Up.alloc ?_ _) | (with_reducible refine Up.drew ?_) | (with_reducible refine Up.grow ?_ _) | (with_reducible refine Up.setCell ?_ (by (try simp); (try omega)) _)))⟩
  have hb := (Tab.okB_iff T).2 hT
  by_cases hr : inR r 0 200 = true
  case neg =>
    rw [code5_range hT (fun h => hr (inR_true.2 ⟨h.1, h.2.1⟩))]
    have hr := Bool.eq_false_iff.2 hr
    go_enter Try.func198, Try.ntmps198
    go_wp2_with (first | (go_at_call 221; refine (s_Valid T true hb _ _ (hv'.up (by repeat' (first | (with_reducible exact Up.refl _) | (with_reducible assumption) | (with_reducible refine Up.alloc ?_ _) | (with_reducible refine Up.drew ?_) | (with_reducible refine Up.grow ?_ _) | (with_reducible refine Up.setCell ?_ (by (try simp); (try omega)) _))))).mono ?_; rintro e w' ⟨rfl, hb⟩; first | (obtain ⟨x, rfl⟩ := Grow.on x hb) | (obtain ⟨x, rfl⟩ := Grow.mk' hb)) | (go_at_call 222; refine (s_Rate _ _).mono ?_; rintro e w' ⟨rfl, rfl⟩) | (go_at_call 142; refine (s_In _ _ _ _).mono ?_; rintro e w' ⟨rfl, rfl⟩))
    go_ret
    exact ⟨rfl, (by repeat' (first | (with_reducible exact Up.refl _) | (with_reducible assumption) | (with_reducible refine Up.alloc ?_ _) | (with_reducible refine Up.drew ?_) | (with_reducible refine Up.grow ?_ _) | (with_reducible refine Up.setCell ?_ (by (try simp); (try omega)) _)))⟩
  by_cases ha : inR age T.first 150 = true
  case neg =>
    rw [code5_range hT (fun h => ha (inR_true.2 h.2.2))]
    have ha := Bool.eq_false_iff.2 ha
    go_enter Try.func198, Try.ntmps198
    go_wp2_with (first | (go_at_call 221; refine (s_Valid T true hb _ _ (hv'.up (by repeat' (first | (with_reducible exact Up.refl _) | (with_reducible assumption) | (with_reducible refine Up.alloc ?_ _) | (with_reducible refine Up.drew ?_) | (with_reducible refine Up.grow ?_ _) | (with_reducible refine Up.setCell ?_ (by (try simp); (try omega)) _))))).mono ?_; rintro e w' ⟨rfl, hb⟩; first | (obtain ⟨x, rfl⟩ := Grow.on x hb) | (obtain ⟨x, rfl⟩ := Grow.mk' hb)) | (go_at_call 222; refine (s_Rate _ _).mono ?_; rintro e w' ⟨rfl, rfl⟩) | (go_at_call 142; refine (s_In _ _ _ _).mono ?_; rintro e w' ⟨rfl, rfl⟩))
    go_ret
    exact ⟨rfl, (by repeat' (first | (with_reducible exact Up.refl _) | (with_reducible assumption) | (with_reducible refine Up.alloc ?_ _) | (with_reducible refine Up.drew ?_) | (with_reducible refine Up.grow ?_ _) | (with_reducible refine Up.setCell ?_ (by (try simp); (try omega)) _)))⟩
  rw [code5_ok hT ⟨(inR_true.1 hr).1, (inR_true.1 hr).2, (inR_true.1 ha).1, (inR_true.1 ha).2⟩]
  go_enter Try.func198, Try.ntmps198
  go_wp2_with (first | (go_at_call 221; refine (s_Valid T true hb _ _ (hv'.up (by repeat' (first | (with_reducible exact Up.refl _) | (with_reducible assumption) | (with_reducible refine Up.alloc ?_ _) | (with_reducible refine Up.drew ?_) | (with_reducible refine Up.grow ?_ _) | (with_reducible refine Up.setCell ?_ (by (try simp); (try omega)) _))))).mono ?_; rintro e w' ⟨rfl, hb⟩; first | (obtain ⟨x, rfl⟩ := Grow.on x hb) | (obtain ⟨x, rfl⟩ := Grow.mk' hb)) | (go_at_call 222; refine (s_Rate _ _).mono ?_; rintro e w' ⟨rfl, rfl⟩) | (go_at_call 142; refine (s_In _ _ _ _).mono ?_; rintro e w' ⟨rfl, rfl⟩))
  go_ret
  exact ⟨rfl, (by repeat' (first | (with_reducible exact Up.refl _) | (with_reducible assumption) | (with_reducible refine Up.alloc ?_ _) | (with_reducible refine Up.drew ?_) | (with_reducible refine Up.grow ?_ _) | (with_reducible refine Up.setCell ?_ (by (try simp); (try omega)) _)))⟩

/-- The program's: at the first age. -/
theorem i_Code5 (T : Tab) (r : Int) (v : Value) (w : World) (hv : TabAt w T v) :
    Calls Try.prog 196 #[v, .int .i64 r] w (Ret w (.int .i64 (code5 T r T.first))) := by
  have hv' := hv
  obtain ⟨A, c, rfl, hc, hm, _, hI⟩ := hv
  by_cases hT : T.Ok
  case neg =>
    rw [code5_bad hT]
    have hb := (Tab.okB_false T).2 hT
    go_enter Try.func196, Try.ntmps196
    go_wp2_with (go_at_call 74; refine (i_Valid T false hb _ _ (hv'.up (by repeat' (first | (with_reducible exact Up.refl _) | (with_reducible assumption) | (with_reducible refine Up.alloc ?_ _) | (with_reducible refine Up.drew ?_) | (with_reducible refine Up.grow ?_ _) | (with_reducible refine Up.setCell ?_ (by (try simp); (try omega)) _))))).mono ?_; rintro e w' ⟨rfl, hb⟩; first | (obtain ⟨x, rfl⟩ := Grow.on x hb) | (obtain ⟨x, rfl⟩ := Grow.mk' hb))
    go_ret
    exact ⟨rfl, (by repeat' (first | (with_reducible exact Up.refl _) | (with_reducible assumption) | (with_reducible refine Up.alloc ?_ _) | (with_reducible refine Up.drew ?_) | (with_reducible refine Up.grow ?_ _) | (with_reducible refine Up.setCell ?_ (by (try simp); (try omega)) _)))⟩
  have hb := (Tab.okB_iff T).2 hT
  have q1 := hT.hi
  by_cases hr : inR r 0 200 = true
  case neg =>
    rw [code5_range hT (fun h => hr (inR_true.2 ⟨h.1, h.2.1⟩))]
    have hr := Bool.eq_false_iff.2 hr
    go_enter Try.func196, Try.ntmps196
    go_wp2_with (first | (go_at_call 74; refine (i_Valid T true hb _ _ (hv'.up (by repeat' (first | (with_reducible exact Up.refl _) | (with_reducible assumption) | (with_reducible refine Up.alloc ?_ _) | (with_reducible refine Up.drew ?_) | (with_reducible refine Up.grow ?_ _) | (with_reducible refine Up.setCell ?_ (by (try simp); (try omega)) _))))).mono ?_; rintro e w' ⟨rfl, hb⟩; first | (obtain ⟨x, rfl⟩ := Grow.on x hb) | (obtain ⟨x, rfl⟩ := Grow.mk' hb)) | (go_at_call 165; refine (i_Rate _ _).mono ?_; rintro e w' ⟨rfl, rfl⟩))
    go_ret
    exact ⟨rfl, (by repeat' (first | (with_reducible exact Up.refl _) | (with_reducible assumption) | (with_reducible refine Up.alloc ?_ _) | (with_reducible refine Up.drew ?_) | (with_reducible refine Up.grow ?_ _) | (with_reducible refine Up.setCell ?_ (by (try simp); (try omega)) _)))⟩
  rw [code5_ok hT ⟨(inR_true.1 hr).1, (inR_true.1 hr).2, Int.le_refl _, by omega⟩]
  go_enter Try.func196, Try.ntmps196
  go_wp2_with (first | (go_at_call 74; refine (i_Valid T true hb _ _ (hv'.up (by repeat' (first | (with_reducible exact Up.refl _) | (with_reducible assumption) | (with_reducible refine Up.alloc ?_ _) | (with_reducible refine Up.drew ?_) | (with_reducible refine Up.grow ?_ _) | (with_reducible refine Up.setCell ?_ (by (try simp); (try omega)) _))))).mono ?_; rintro e w' ⟨rfl, hb⟩; first | (obtain ⟨x, rfl⟩ := Grow.on x hb) | (obtain ⟨x, rfl⟩ := Grow.mk' hb)) | (go_at_call 165; refine (i_Rate _ _).mono ?_; rintro e w' ⟨rfl, rfl⟩))
  go_ret
  exact ⟨rfl, (by repeat' (first | (with_reducible exact Up.refl _) | (with_reducible assumption) | (with_reducible refine Up.alloc ?_ _) | (with_reducible refine Up.drew ?_) | (with_reducible refine Up.grow ?_ _) | (with_reducible refine Up.setCell ?_ (by (try simp); (try omega)) _)))⟩
end Go.Proofs.Ytdeoampkbbbleaa
