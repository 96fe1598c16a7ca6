/- Contracts of the functions over life tables: lives, ends, deaths, validity. Conditions: what each names. -/
import Derived.Test.YtdeoampkbbbleaaNum
namespace Go.Proofs.Ytdeoampkbbbleaa
open Go.RowKit Pu

theorem s_Lives {T : Tab} (hT : T.Ok) (age : Int) (h1 : T.first ≤ age) (h2 : age ≤ 400) (v : Value) (w : World) (hv : TabAt w T v) :
    Calls Try.prog 157 #[v, .int .i64 age] w (Ret w (.int .i64 (T.lv (age - T.first).toNat))) := by
  obtain ⟨A, c, rfl, hc, hm, _, hI⟩ := hv
  have q1 := hT.lo; have q2 := hT.hi; have q3 := hT.n120; have q4 := hT.n2
  obtain ⟨b, off, rfl, hlt, hcell⟩ := hI.at_ (by omega)
  have hin : age - T.first < T.n → w.cell? ⟨b, off + (age - T.first).toNat, none⟩ = some (.int .i64 (T.f (age - T.first).toNat)) := fun h => hcell _ (by omega)
  clear hcell
  go_enter Try.func157, Try.ntmps157
  go_wp2
  · go_ret
    exact ⟨by rw [Tab.lv_out (by omega)]; rfl, (by repeat' (first | (with_reducible exact Up.refl _) | (with_reducible assumption) | (with_reducible refine Up.alloc ?_ _) | (with_reducible refine Up.drew ?_) | (with_reducible refine Up.grow ?_ _) | (with_reducible refine Up.setCell ?_ (by (try simp); (try omega)) _)))⟩
  · go_ret
    exact ⟨by rw [Tab.lv_in (by omega)]; rfl, (by repeat' (first | (with_reducible exact Up.refl _) | (with_reducible assumption) | (with_reducible refine Up.alloc ?_ _) | (with_reducible refine Up.drew ?_) | (with_reducible refine Up.grow ?_ _) | (with_reducible refine Up.setCell ?_ (by (try simp); (try omega)) _)))⟩

theorem s_End {T : Tab} (hT : T.Ok) (v : Value) (w : World) (hv : TabAt w T v) :
    Calls Try.prog 179 #[v] w (Ret w (.int .i64 (T.first + T.n - 1))) := by
  obtain ⟨A, c, rfl, hc, hm, _, hI⟩ := hv
  have q1 := hT.lo; have q2 := hT.hi; have q3 := hT.n120; have q4 := hT.n2
  go_enter Try.func179, Try.ntmps179
  go_wp2
  go_ret
  exact ⟨rfl, (by repeat' (first | (with_reducible exact Up.refl _) | (with_reducible assumption) | (with_reducible refine Up.alloc ?_ _) | (with_reducible refine Up.drew ?_) | (with_reducible refine Up.grow ?_ _) | (with_reducible refine Up.setCell ?_ (by (try simp); (try omega)) _)))⟩

theorem i_Length (A : Option Addr) (n c : Nat) (_hn : n ≤ 140737488355328) (w : World) :
    Calls Try.prog 194 #[.slice A n c] w fun e w' => e = .returned (.int .i64 n) ∧ w = w' := by
  go_enter Try.func194, Try.ntmps194
  go_wp2
  go_ret
  exact ⟨rfl, rfl⟩

theorem i_End {T : Tab} (hT : T.Ok) (v : Value) (w : World) (hv : TabAt w T v) :
    Calls Try.prog 248 #[v] w (Ret w (.int .i64 (T.first + T.n - 1))) := by
  obtain ⟨A, c, rfl, hc, hm, _, hI⟩ := hv
  have q1 := hT.lo; have q2 := hT.hi; have q3 := hT.n120; have q4 := hT.n2
  go_enter Try.func248, Try.ntmps248
  go_wp2_with (first | (go_at_call 194; refine (i_Length _ _ _ (by omega) _).mono ?_; rintro e w' ⟨rfl, rfl⟩) | ((first | with_reducible refine wp_region_in x (by kernel_rfl) (by kernel_rfl) ?_ | with_reducible refine wp_region_here (by kernel_rfl) (by kernel_rfl) ?_); (repeat (go_big_quiet_step (((go_at_call 194; exact Ret.same _ (i_Length _ _ _ (by omega) _)))))); refine wpQuiet_nil ?_; intro w' hw'; obtain ⟨x, rfl⟩ := hw'))
  go_ret
  exact ⟨rfl, (by repeat' (first | (with_reducible exact Up.refl _) | (with_reducible assumption) | (with_reducible refine Up.alloc ?_ _) | (with_reducible refine Up.drew ?_) | (with_reducible refine Up.grow ?_ _) | (with_reducible refine Up.setCell ?_ (by (try simp); (try omega)) _)))⟩

theorem i_Lives {T : Tab} (hT : T.Ok) (age : Int) (h1 : T.first ≤ age) (h2 : age ≤ 400) (v : Value) (w : World) (hv : TabAt w T v) :
    Calls Try.prog 161 #[v, .int .i64 age] w (Ret w (.int .i64 (T.lv (age - T.first).toNat))) := by
  have hv' := hv
  obtain ⟨A, c, rfl, hc, hm, _, hI⟩ := hv
  have q1 := hT.lo; have q2 := hT.hi; have q3 := hT.n120; have q4 := hT.n2
  obtain ⟨b, off, rfl, hlt, hcell⟩ := hI.at_ (by omega)
  have hin : age - T.first < T.n → ∀ x : Grow (w.alloc (.cells #[.int .i64 T.first, .slice (some ⟨b, off, none⟩) T.n c] 31)), x.to.cell? ⟨b, off + (age - T.first).toNat, none⟩ = some (.int .i64 (T.f (age - T.first).toNat)) := fun h x =>
    (x.below.cell (p := ⟨b, off + (age - T.first).toNat, none⟩) (by simp; omega)).trans ((World.cell?_alloc_lt _ _ _ (by exact hlt)).trans (hcell _ (by omega)))
  clear hcell
  by_cases hq : age - T.first < T.n
  · have hin' := hin hq
    clear hin
    go_enter Try.func161, Try.ntmps161
    go_wp2_with (go_at_call 248; refine (i_End hT _ _ (hv'.up (by repeat' (first | (with_reducible exact Up.refl _) | (with_reducible assumption) | (with_reducible refine Up.alloc ?_ _) | (with_reducible refine Up.drew ?_) | (with_reducible refine Up.grow ?_ _) | (with_reducible refine Up.setCell ?_ (by (try simp); (try omega)) _))))).mono ?_; rintro e w' ⟨rfl, hb⟩; first | (obtain ⟨x, rfl⟩ := Grow.on x hb) | (obtain ⟨x, rfl⟩ := Grow.mk' hb))
    go_ret
    exact ⟨by rw [Tab.lv_in (by omega)]; rfl, (by repeat' (first | (with_reducible exact Up.refl _) | (with_reducible assumption) | (with_reducible refine Up.alloc ?_ _) | (with_reducible refine Up.drew ?_) | (with_reducible refine Up.grow ?_ _) | (with_reducible refine Up.setCell ?_ (by (try simp); (try omega)) _)))⟩
  · clear hin
    go_enter Try.func161, Try.ntmps161
    go_wp2_with (go_at_call 248; refine (i_End hT _ _ (hv'.up (by repeat' (first | (with_reducible exact Up.refl _) | (with_reducible assumption) | (with_reducible refine Up.alloc ?_ _) | (with_reducible refine Up.drew ?_) | (with_reducible refine Up.grow ?_ _) | (with_reducible refine Up.setCell ?_ (by (try simp); (try omega)) _))))).mono ?_; rintro e w' ⟨rfl, hb⟩; first | (obtain ⟨x, rfl⟩ := Grow.on x hb) | (obtain ⟨x, rfl⟩ := Grow.mk' hb))
    go_ret
    exact ⟨by rw [Tab.lv_out (by omega)]; rfl, (by repeat' (first | (with_reducible exact Up.refl _) | (with_reducible assumption) | (with_reducible refine Up.alloc ?_ _) | (with_reducible refine Up.drew ?_) | (with_reducible refine Up.grow ?_ _) | (with_reducible refine Up.setCell ?_ (by (try simp); (try omega)) _)))⟩
end Go.Proofs.Ytdeoampkbbbleaa
