/- Words on policies: a basis in memory, when a policy is valid, the codes. Conditions: what each names. -/
import Derived.Test.YtdeoampkbbbleaaS07b
import Derived.Test.YtdeoampkbbbleaaPureP
namespace Go.Proofs.Ytdeoampkbbbleaa
open Go.RowKit Pu

/-- The value v is the basis of the table T and the rate r in w. -/
def BasAt (w : World) (T : Tab) (r : Int) (v : Value) : Prop := ∃ A c, v = .agg #[.int .i64 T.first, .slice A T.n c, .int .i64 r] ∧ T.n ≤ c ∧ c ≤ 9223372036854775807 ∧ T.n ≤ 1048576 ∧ Ints w A T.n T.f
theorem BasAt.up {w w' : World} {T r v} (h : BasAt w T r v) (u : Up w w') : BasAt w' T r v := by
  obtain ⟨A, c, h1, h2, h3, h4, h5⟩ := h
  exact ⟨A, c, h1, h2, h3, h4, h5.up u⟩

open Classical in
noncomputable def polB (T : Tab) (r kind age n m ld : Int) : Bool := decide (code7 T r kind age n (inR m 1 100000000) = 0 ∧ inR ld 0 1000 = true ∧ ∀ j : Nat, (j : Int) < n → T.D r (ix T age + j) ≠ 0)
theorem polB_iff {T : Tab} {r kind age n m ld : Int} : polB T r kind age n m ld = true ↔ (code7 T r kind age n (inR m 1 100000000) = 0 ∧ inR ld 0 1000 = true ∧ ∀ j : Nat, (j : Int) < n → T.D r (ix T age + j) ≠ 0) := by unfold polB; simp
theorem polB_false {T : Tab} {r kind age n m ld : Int} (h : ¬ (code7 T r kind age n (inR m 1 100000000) = 0 ∧ inR ld 0 1000 = true ∧ ∀ j : Nat, (j : Int) < n → T.D r (ix T age + j) ≠ 0)) : polB T r kind age n m ld = false := Bool.eq_false_iff.2 fun e => h (polB_iff.1 e)
theorem polB_ok {T : Tab} {r kind age n m ld : Int} (h : polB T r kind age n m ld = true) : ∃ k n' : Nat, age = T.first + k ∧ n = n' ∧ PK T r kind k n' m ld := by
  obtain ⟨hz, hl, hD⟩ := polB_iff.1 h
  obtain ⟨hT, h0, h1, hm1, hk1, hk2, k, n, rfl, rfl, hkn, hn, hl2, hd⟩ := code7_ok hz
  have b1 := inR_true.1 hm1
  have b2 := inR_true.1 hl
  refine ⟨k, n, rfl, rfl, hT, h0, h1, hk1, hk2, hkn, hn, hl2, b1.1, b1.2, b2.1, b2.2, hd, fun j hj => ?_⟩
  have := hD j (by omega)
  rw [ix_k] at this
  have := (hT.D_bd h0 (k + j)).1
  omega
theorem Pu.PK.code {T : Tab} {r kind : Int} {k n : Nat} {m ld : Int} (h : PK T r kind k n m ld) : code7 T r kind (T.first + k) n (inR m 1 100000000) = 0 := by
  have hl := h.hT.lo; have h3 := h.hl; have h4 := h.hz; have h5 := h.n120
  have hf : fits kind n = true := fits_iff.2 ⟨⟨h.k1, h.k2⟩, by omega⟩
  have hm : inR m 1 100000000 = true := inR_true.2 ⟨h.m1, h.m2⟩
  have hd := h.d0
  unfold code7
  refine code6_zero.2 ⟨code5_zero.2 ⟨h.hT, h.h0, h.h1, by omega, by omega⟩, ⟨by rw [hm, hf]; rfl, by omega, by omega, by omega⟩, ?_⟩
  rw [kk]; omega
/-- The policy with another sum is valid too. -/
theorem Pu.PK.sum {T : Tab} {r kind : Int} {k n : Nat} {m ld : Int} (h : PK T r kind k n m ld) {x : Int} (h1 : 1 ≤ x) (h2 : x ≤ 100000000) : PK T r kind k n x ld :=
  { h with m1 := h1, m2 := h2 }
theorem Pu.PK.pol {T : Tab} {r kind : Int} {k n : Nat} {m ld : Int} (h : PK T r kind k n m ld) : polB T r kind (T.first + k) n m ld = true := by
  refine polB_iff.2 ⟨h.code, inR_true.2 ⟨h.l1, h.l2⟩, fun j hj => ?_⟩
  rw [ix_k]
  have := h.ds j (by omega)
  omega

noncomputable def polC (T : Tab) (r kind age n m ld : Int) : Int := if polB T r kind age n m ld = true then 0 else 1
theorem polC_ok {T : Tab} {r kind age n m ld : Int} (h : polB T r kind age n m ld = true) : polC T r kind age n m ld = 0 := by unfold polC; rw [if_pos h]
theorem polC_bad {T : Tab} {r kind age n m ld : Int} (h : polB T r kind age n m ld = false) : polC T r kind age n m ld = 1 := by unfold polC; rw [if_neg (by rw [h]; simp)]

/-- The code of a policy and a year. -/
noncomputable def resC (T : Tab) (r kind age n m ld j : Int) : Int :=
  if polB T r kind age n m ld = true then (if 0 ≤ j ∧ j < T.dur kind (ix T age) n.toNat then (if T.D r (ix T age + j.toNat) = 0 then 5 else 0) else 2) else 1
theorem resC_pol {T : Tab} {r kind age n m ld j : Int} (h : polB T r kind age n m ld = false) : resC T r kind age n m ld j = 1 := by unfold resC; rw [if_neg (by rw [h]; simp)]
section
variable {T : Tab} {r kind : Int} {k n : Nat} {m ld : Int} (h : PK T r kind k n m ld)
include h
theorem Pu.PK.rc (j : Int) : resC T r kind (T.first + k) n m ld j = if 0 ≤ j ∧ j < T.dur kind k n then (if T.D r (k + j.toNat) = 0 then 5 else 0) else 2 := by
  unfold resC; rw [if_pos h.pol, ix_k, Int.toNat_natCast]
theorem Pu.PK.rc_out {j : Int} (hj : ¬ (0 ≤ j ∧ j < T.dur kind k n)) : resC T r kind (T.first + k) n m ld j = 2 := by rw [h.rc, if_neg hj]
theorem Pu.PK.rc_in {j : Nat} (hj : j < T.dur kind k n) : resC T r kind (T.first + k) n m ld j = if T.D r (k + j) = 0 then 5 else 0 := by rw [h.rc, if_pos (by omega), Int.toNat_natCast]
end
theorem resC_ok {T : Tab} {r kind age n m ld j : Int} (h : resC T r kind age n m ld j = 0) : ∃ k n' j' : Nat, age = T.first + k ∧ n = n' ∧ j = j' ∧ PK T r kind k n' m ld ∧ j' < T.dur kind k n' ∧ 1 ≤ T.D r (k + j') := by
  by_cases hp : polB T r kind age n m ld = true
  case neg => rw [resC_pol (Bool.eq_false_iff.2 hp)] at h; cases h
  obtain ⟨k, n, rfl, rfl, hk⟩ := polB_ok hp
  by_cases hj : 0 ≤ j ∧ j < T.dur kind k n
  case neg => rw [hk.rc_out hj] at h; cases h
  obtain ⟨j, rfl⟩ : ∃ j' : Nat, j = j' := ⟨j.toNat, by omega⟩
  refine ⟨k, n, j, rfl, rfl, rfl, hk, by omega, ?_⟩
  rw [hk.rc_in (by omega)] at h
  have := (hk.hT.D_bd hk.h0 (k + j)).1
  split at h
  · cases h
  · omega
/-- The code of leaving. -/
noncomputable def lvC (T : Tab) (r kind age n m ld j : Int) : Int := if resC T r kind age n m ld j = 0 then (if j < 2 then 4 else 0) else resC T r kind age n m ld j
end Go.Proofs.Ytdeoampkbbbleaa
