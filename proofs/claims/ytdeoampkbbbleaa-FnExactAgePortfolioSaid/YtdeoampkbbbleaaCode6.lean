/- Contracts of the code of an annuity: the reference's l06Code. Condition: the slice reads as the table's numbers. -/
import Derived.Test.YtdeoampkbbbleaaCodes
import Derived.Test.YtdeoampkbbbleaaCols
namespace Go.Proofs.Ytdeoampkbbbleaa
open Go.RowKit Pu

open Classical in
/-- The code of a table, a rate, an age, an amount that is right or not, and a number of years. -/
noncomputable def code6 (T : Tab) (r age : Int) (b : Bool) (n : Int) : Int :=
  if code5 T r age = 0 then (if b = true ∧ 0 ≤ n ∧ n ≤ 120 ∧ age + n ≤ 150 then (if T.D r (age - T.first).toNat = 0 then 5 else 0) else 2) else code5 T r age
theorem code6_zero {T : Tab} {r age : Int} {b : Bool} {n : Int} : code6 T r age b n = 0 ↔ code5 T r age = 0 ∧ (b = true ∧ 0 ≤ n ∧ n ≤ 120 ∧ age + n ≤ 150) ∧ T.D r (age - T.first).toNat ≠ 0 := by
  unfold code6
  by_cases h : code5 T r age = 0
  · rw [if_pos h]
    by_cases h2 : b = true ∧ 0 ≤ n ∧ n ≤ 120 ∧ age + n ≤ 150
    · rw [if_pos h2]; split <;> simp_all
    · rw [if_neg h2]; simp [h2]
  · rw [if_neg h]; simp [h]

theorem s_Code6 (T : Tab) (r age : Int) (b : Bool) (n : Int) (v : Value) (w : World) (hv : TabAt w T v) :
    Calls Try.prog 226 #[v, .int .i64 r, .int .i64 age, .bool b, .int .i64 n] w (Ret w (.int .i64 (code6 T r age b n))) := by
  have hv' := hv
  obtain ⟨A, c, rfl, hc, hm, _, hI⟩ := hv
  by_cases hz : code5 T r age = 0
  case neg =>
    have e : code6 T r age b n = code5 T r age := by unfold code6; rw [if_neg hz]
    rw [e]
    have HC := Lib.hid (s_Code5 T r age)
    generalize code5 T r age = k at *
    clear e
    go_enter Try.func226, Try.ntmps226
    go_wp2_with (go_at_call 198; refine (HC.out _ _ (hv'.up (by repeat' (first | (with_reducible exact Up.refl _) | (with_reducible assumption) | (with_reducible refine Up.alloc ?_ _) | (with_reducible refine Up.drew ?_) | (with_reducible refine Up.grow ?_ _) | (with_reducible refine Up.setCell ?_ (by (try simp); (try omega)) _))))).mono ?_; rintro e w' ⟨rfl, hb⟩; first | (obtain ⟨x, rfl⟩ := Grow.on x hb) | (obtain ⟨x, rfl⟩ := Grow.mk' hb))
    go_ret
    exact ⟨rfl, (by repeat' (first | (with_reducible exact Up.refl _) | (with_reducible assumption) | (with_reducible refine Up.alloc ?_ _) | (with_reducible refine Up.drew ?_) | (with_reducible refine Up.grow ?_ _) | (with_reducible refine Up.setCell ?_ (by (try simp); (try omega)) _)))⟩
  obtain ⟨hT, h0, h1, ha, hb⟩ := code5_zero.1 hz
  have hcode := s_Code5 T r age
  rw [hz] at hcode
  by_cases hg : b = true ∧ 0 ≤ n ∧ n ≤ 120 ∧ age + n ≤ 150
  case neg =>
    have e : code6 T r age b n = 2 := by unfold code6; rw [if_pos hz, if_neg hg]
    rw [e]
    have HC := Lib.hid hcode
    clear hcode hz e
    cases b with
    | false =>
      clear hg
      go_enter Try.func226, Try.ntmps226
      go_wp2_with (go_at_call 198; refine (HC.out _ _ (hv'.up (by repeat' (first | (with_reducible exact Up.refl _) | (with_reducible assumption) | (with_reducible refine Up.alloc ?_ _) | (with_reducible refine Up.drew ?_) | (with_reducible refine Up.grow ?_ _) | (with_reducible refine Up.setCell ?_ (by (try simp); (try omega)) _))))).mono ?_; rintro e w' ⟨rfl, hb⟩; first | (obtain ⟨x, rfl⟩ := Grow.on x hb) | (obtain ⟨x, rfl⟩ := Grow.mk' hb))
      go_ret
      exact ⟨rfl, (by repeat' (first | (with_reducible exact Up.refl _) | (with_reducible assumption) | (with_reducible refine Up.alloc ?_ _) | (with_reducible refine Up.drew ?_) | (with_reducible refine Up.grow ?_ _) | (with_reducible refine Up.setCell ?_ (by (try simp); (try omega)) _)))⟩
    | true =>
      by_cases hn : inR n 0 120 = true
      · have hn1 := inR_true.1 hn
        have hn2 : 150 < age + n := by simp at hg; omega
        clear hg
        go_enter Try.func226, Try.ntmps226
        go_wp2_with (first | (go_at_call 198; refine (HC.out _ _ (hv'.up (by repeat' (first | (with_reducible exact Up.refl _) | (with_reducible assumption) | (with_reducible refine Up.alloc ?_ _) | (with_reducible refine Up.drew ?_) | (with_reducible refine Up.grow ?_ _) | (with_reducible refine Up.setCell ?_ (by (try simp); (try omega)) _))))).mono ?_; rintro e w' ⟨rfl, hb⟩; first | (obtain ⟨x, rfl⟩ := Grow.on x hb) | (obtain ⟨x, rfl⟩ := Grow.mk' hb)) | (go_at_call 142; refine (s_In _ _ _ _).mono ?_; rintro e w' ⟨rfl, rfl⟩))
        go_ret
        exact ⟨rfl, (by repeat' (first | (with_reducible exact Up.refl _) | (with_reducible assumption) | (with_reducible refine Up.alloc ?_ _) | (with_reducible refine Up.drew ?_) | (with_reducible refine Up.grow ?_ _) | (with_reducible refine Up.setCell ?_ (by (try simp); (try omega)) _)))⟩
      · have hn := Bool.eq_false_iff.2 hn
        clear hg
        go_enter Try.func226, Try.ntmps226
        go_wp2_with (first | (go_at_call 198; refine (HC.out _ _ (hv'.up (by repeat' (first | (with_reducible exact Up.refl _) | (with_reducible assumption) | (with_reducible refine Up.alloc ?_ _) | (with_reducible refine Up.drew ?_) | (with_reducible refine Up.grow ?_ _) | (with_reducible refine Up.setCell ?_ (by (try simp); (try omega)) _))))).mono ?_; rintro e w' ⟨rfl, hb⟩; first | (obtain ⟨x, rfl⟩ := Grow.on x hb) | (obtain ⟨x, rfl⟩ := Grow.mk' hb)) | (go_at_call 142; refine (s_In _ _ _ _).mono ?_; rintro e w' ⟨rfl, rfl⟩))
        go_ret
        exact ⟨rfl, (by repeat' (first | (with_reducible exact Up.refl _) | (with_reducible assumption) | (with_reducible refine Up.alloc ?_ _) | (with_reducible refine Up.drew ?_) | (with_reducible refine Up.grow ?_ _) | (with_reducible refine Up.setCell ?_ (by (try simp); (try omega)) _)))⟩
  have hg' := hg
  obtain ⟨rfl, hn0, hn1, hn2⟩ := hg
  have ha0 : 0 ≤ age := by have := hT.lo; omega
  have hn : inR n 0 120 = true := inR_true.2 ⟨hn0, hn1⟩
  have hD := s_D hT h0 h1 age ha (by omega)
  by_cases hd : T.D r (age - T.first).toNat = 0
  · have e : code6 T r age true n = 5 := by unfold code6; rw [if_pos hz, if_pos hg', if_pos hd]
    rw [e]
    rw [hd] at hD
    have HC := Lib.hid hcode
    have HD := Lib.hid hD
    clear hcode hz e hD hd hg'
    go_enter Try.func226, Try.ntmps226
    go_wp2_with (first | (go_at_call 198; refine (HC.out _ _ (hv'.up (by repeat' (first | (with_reducible exact Up.refl _) | (with_reducible assumption) | (with_reducible refine Up.alloc ?_ _) | (with_reducible refine Up.drew ?_) | (with_reducible refine Up.grow ?_ _) | (with_reducible refine Up.setCell ?_ (by (try simp); (try omega)) _))))).mono ?_; rintro e w' ⟨rfl, hb⟩; first | (obtain ⟨x, rfl⟩ := Grow.on x hb) | (obtain ⟨x, rfl⟩ := Grow.mk' hb)) | (go_at_call 142; refine (s_In _ _ _ _).mono ?_; rintro e w' ⟨rfl, rfl⟩) | (go_at_call 152; refine (HD.out _ _ (hv'.up (by repeat' (first | (with_reducible exact Up.refl _) | (with_reducible assumption) | (with_reducible refine Up.alloc ?_ _) | (with_reducible refine Up.drew ?_) | (with_reducible refine Up.grow ?_ _) | (with_reducible refine Up.setCell ?_ (by (try simp); (try omega)) _))))).mono ?_; rintro e w' ⟨rfl, hb⟩; first | (obtain ⟨x, rfl⟩ := Grow.on x hb) | (obtain ⟨x, rfl⟩ := Grow.mk' hb)))
    go_ret
    exact ⟨rfl, (by repeat' (first | (with_reducible exact Up.refl _) | (with_reducible assumption) | (with_reducible refine Up.alloc ?_ _) | (with_reducible refine Up.drew ?_) | (with_reducible refine Up.grow ?_ _) | (with_reducible refine Up.setCell ?_ (by (try simp); (try omega)) _)))⟩
  · have e : code6 T r age true n = 0 := by unfold code6; rw [if_pos hz, if_pos hg', if_neg hd]
    rw [e]
    have HC := Lib.hid hcode
    have HD := Lib.hid hD
    clear hcode hz e hD hg'
    generalize T.D r (age - T.first).toNat = D at *
    go_enter Try.func226, Try.ntmps226
    go_wp2_with (first | (go_at_call 198; refine (HC.out _ _ (hv'.up (by repeat' (first | (with_reducible exact Up.refl _) | (with_reducible assumption) | (with_reducible refine Up.alloc ?_ _) | (with_reducible refine Up.drew ?_) | (with_reducible refine Up.grow ?_ _) | (with_reducible refine Up.setCell ?_ (by (try simp); (try omega)) _))))).mono ?_; rintro e w' ⟨rfl, hb⟩; first | (obtain ⟨x, rfl⟩ := Grow.on x hb) | (obtain ⟨x, rfl⟩ := Grow.mk' hb)) | (go_at_call 142; refine (s_In _ _ _ _).mono ?_; rintro e w' ⟨rfl, rfl⟩) | (go_at_call 152; refine (HD.out _ _ (hv'.up (by repeat' (first | (with_reducible exact Up.refl _) | (with_reducible assumption) | (with_reducible refine Up.alloc ?_ _) | (with_reducible refine Up.drew ?_) | (with_reducible refine Up.grow ?_ _) | (with_reducible refine Up.setCell ?_ (by (try simp); (try omega)) _))))).mono ?_; rintro e w' ⟨rfl, hb⟩; first | (obtain ⟨x, rfl⟩ := Grow.on x hb) | (obtain ⟨x, rfl⟩ := Grow.mk' hb)))
    go_ret
    exact ⟨rfl, (by repeat' (first | (with_reducible exact Up.refl _) | (with_reducible assumption) | (with_reducible refine Up.alloc ?_ _) | (with_reducible refine Up.drew ?_) | (with_reducible refine Up.grow ?_ _) | (with_reducible refine Up.setCell ?_ (by (try simp); (try omega)) _)))⟩
end Go.Proofs.Ytdeoampkbbbleaa
