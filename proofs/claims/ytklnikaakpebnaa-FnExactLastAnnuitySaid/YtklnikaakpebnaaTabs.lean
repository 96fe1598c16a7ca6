/- Contracts of the functions over life tables: lives, ends, deaths, validity. Conditions: what each names. -/
import Derived.Test.YtklnikaakpebnaaNum
namespace Go.Proofs.Ytklnikaakpebnaa
open Go.RowKit Pu

theorem s_Lives {T : Tab} (hT : T.Ok) (age : Int) (h1 : T.first ≤ age) (h2 : age ≤ 400) (v : Value) (w : World) (hv : TabAt w T v) :
    Calls Try.prog 235 #[v, .int .i64 age] w (Ret w (.int .i64 (T.lv (age - T.first).toNat))) := by
  obtain ⟨A, c, rfl, hc, hm, _, hI⟩ := hv
  have q1 := hT.lo; have q2 := hT.hi; have q3 := hT.n120; have q4 := hT.n2
  obtain ⟨b, off, rfl, hlt, hcell⟩ := hI.at_ (by omega)
  have hin : age - T.first < T.n → w.cell? ⟨b, off + (age - T.first).toNat, none⟩ = some (.int .i64 (T.f (age - T.first).toNat)) := fun h => hcell _ (by omega)
  clear hcell
  go_enter Try.func235, Try.ntmps235
  go_wp2
  · go_ret
    exact ⟨by rw [Tab.lv_out (by omega)]; rfl, (by repeat' (first | (with_reducible exact Up.refl _) | (with_reducible assumption) | (with_reducible refine Up.alloc ?_ _) | (with_reducible refine Up.drew ?_) | (with_reducible refine Up.grow ?_ _) | (with_reducible refine Up.setCell ?_ (by (try simp); (try omega)) _)))⟩
  · go_ret
    exact ⟨by rw [Tab.lv_in (by omega)]; rfl, (by repeat' (first | (with_reducible exact Up.refl _) | (with_reducible assumption) | (with_reducible refine Up.alloc ?_ _) | (with_reducible refine Up.drew ?_) | (with_reducible refine Up.grow ?_ _) | (with_reducible refine Up.setCell ?_ (by (try simp); (try omega)) _)))⟩

theorem s_End {T : Tab} (hT : T.Ok) (v : Value) (w : World) (hv : TabAt w T v) :
    Calls Try.prog 261 #[v] w (Ret w (.int .i64 (T.first + T.n - 1))) := by
  obtain ⟨A, c, rfl, hc, hm, _, hI⟩ := hv
  have q1 := hT.lo; have q2 := hT.hi; have q3 := hT.n120; have q4 := hT.n2
  go_enter Try.func261, Try.ntmps261
  go_wp2
  go_ret
  exact ⟨rfl, (by repeat' (first | (with_reducible exact Up.refl _) | (with_reducible assumption) | (with_reducible refine Up.alloc ?_ _) | (with_reducible refine Up.drew ?_) | (with_reducible refine Up.grow ?_ _) | (with_reducible refine Up.setCell ?_ (by (try simp); (try omega)) _)))⟩

theorem i_Length (A : Option Addr) (n c : Nat) (_hn : n ≤ 140737488355328) (w : World) :
    Calls Try.prog 211 #[.slice A n c] w fun e w' => e = .returned (.int .i64 n) ∧ w = w' := by
  go_enter Try.func211, Try.ntmps211
  go_wp2
  go_ret
  exact ⟨rfl, rfl⟩

theorem i_End {T : Tab} (hT : T.Ok) (v : Value) (w : World) (hv : TabAt w T v) :
    Calls Try.prog 305 #[v] w (Ret w (.int .i64 (T.first + T.n - 1))) := by
  obtain ⟨A, c, rfl, hc, hm, _, hI⟩ := hv
  have q1 := hT.lo; have q2 := hT.hi; have q3 := hT.n120; have q4 := hT.n2
  go_enter Try.func305, Try.ntmps305
  go_wp2_with (first | (go_at_call 211; refine (i_Length _ _ _ (by omega) _).mono ?_; rintro e w' ⟨rfl, rfl⟩) | ((first | with_reducible refine wp_region_in x (by kernel_rfl) (by kernel_rfl) ?_ | with_reducible refine wp_region_here (by kernel_rfl) (by kernel_rfl) ?_); (repeat (go_big_quiet_step (((go_at_call 211; exact Ret.same _ (i_Length _ _ _ (by omega) _)))))); refine wpQuiet_nil ?_; intro w' hw'; obtain ⟨x, rfl⟩ := hw'))
  go_ret
  exact ⟨rfl, (by repeat' (first | (with_reducible exact Up.refl _) | (with_reducible assumption) | (with_reducible refine Up.alloc ?_ _) | (with_reducible refine Up.drew ?_) | (with_reducible refine Up.grow ?_ _) | (with_reducible refine Up.setCell ?_ (by (try simp); (try omega)) _)))⟩

theorem i_Lives {T : Tab} (hT : T.Ok) (age : Int) (h1 : T.first ≤ age) (h2 : age ≤ 400) (v : Value) (w : World) (hv : TabAt w T v) :
    Calls Try.prog 238 #[v, .int .i64 age] w (Ret w (.int .i64 (T.lv (age - T.first).toNat))) := by
  have hv' := hv
  obtain ⟨A, c, rfl, hc, hm, _, hI⟩ := hv
  have q1 := hT.lo; have q2 := hT.hi; have q3 := hT.n120; have q4 := hT.n2
  obtain ⟨b, off, rfl, hlt, hcell⟩ := hI.at_ (by omega)
  have hin : age - T.first < T.n → ∀ x : Grow (w.alloc (.cells #[.int .i64 T.first, .slice (some ⟨b, off, none⟩) T.n c] 28)), x.to.cell? ⟨b, off + (age - T.first).toNat, none⟩ = some (.int .i64 (T.f (age - T.first).toNat)) := fun h x =>
    (x.below.cell (p := ⟨b, off + (age - T.first).toNat, none⟩) (by simp; omega)).trans ((World.cell?_alloc_lt _ _ _ (by exact hlt)).trans (hcell _ (by omega)))
  clear hcell
  by_cases hq : age - T.first < T.n
  · have hin' := hin hq
    clear hin
    go_enter Try.func238, Try.ntmps238
    go_wp2_with (go_at_call 305; refine (i_End hT _ _ (hv'.up (by repeat' (first | (with_reducible exact Up.refl _) | (with_reducible assumption) | (with_reducible refine Up.alloc ?_ _) | (with_reducible refine Up.drew ?_) | (with_reducible refine Up.grow ?_ _) | (with_reducible refine Up.setCell ?_ (by (try simp); (try omega)) _))))).mono ?_; rintro e w' ⟨rfl, hb⟩; first | (obtain ⟨x, rfl⟩ := Grow.on x hb) | (obtain ⟨x, rfl⟩ := Grow.mk' hb))
    go_ret
    exact ⟨by rw [Tab.lv_in (by omega)]; rfl, (by repeat' (first | (with_reducible exact Up.refl _) | (with_reducible assumption) | (with_reducible refine Up.alloc ?_ _) | (with_reducible refine Up.drew ?_) | (with_reducible refine Up.grow ?_ _) | (with_reducible refine Up.setCell ?_ (by (try simp); (try omega)) _)))⟩
  · clear hin
    go_enter Try.func238, Try.ntmps238
    go_wp2_with (go_at_call 305; refine (i_End hT _ _ (hv'.up (by repeat' (first | (with_reducible exact Up.refl _) | (with_reducible assumption) | (with_reducible refine Up.alloc ?_ _) | (with_reducible refine Up.drew ?_) | (with_reducible refine Up.grow ?_ _) | (with_reducible refine Up.setCell ?_ (by (try simp); (try omega)) _))))).mono ?_; rintro e w' ⟨rfl, hb⟩; first | (obtain ⟨x, rfl⟩ := Grow.on x hb) | (obtain ⟨x, rfl⟩ := Grow.mk' hb))
    go_ret
    exact ⟨by rw [Tab.lv_out (by omega)]; rfl, (by repeat' (first | (with_reducible exact Up.refl _) | (with_reducible assumption) | (with_reducible refine Up.alloc ?_ _) | (with_reducible refine Up.drew ?_) | (with_reducible refine Up.grow ?_ _) | (with_reducible refine Up.setCell ?_ (by (try simp); (try omega)) _)))⟩
end Go.Proofs.Ytklnikaakpebnaa
