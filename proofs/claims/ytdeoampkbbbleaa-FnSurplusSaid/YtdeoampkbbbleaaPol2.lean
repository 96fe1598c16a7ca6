/- Words on lists of reserves, risks, leaving: codes and answers. Conditions: what each names. -/
import Derived.Test.YtdeoampkbbbleaaPol
import Derived.Test.YtdeoampkbbbleaaPureR
namespace Go.Proofs.Ytdeoampkbbbleaa
open Go.RowKit Pu
set_option linter.unusedSectionVars false

/-- The code of a list of reserves. -/
noncomputable def rlC (T : Tab) (r kind age n m ld : Int) : Int :=
  if polB T r kind age n m ld = true then (if T.D r (ix T age + T.dur kind (ix T age) n.toNat - 1) = 0 then 5 else 0) else 1
noncomputable def rlL (T : Tab) (r kind age n m ld : Int) : List Int :=
  if rlC T r kind age n m ld = 0 then (List.range (T.dur kind (ix T age) n.toNat)).map (T.rg r kind (ix T age) n.toNat m) else []
theorem rlC_pol {T : Tab} {r kind age n m ld : Int} (h : polB T r kind age n m ld = false) : rlC T r kind age n m ld = 1 := by unfold rlC; rw [if_neg (by rw [h]; simp)]
theorem rlL_bad {T : Tab} {r kind age n m ld : Int} (h : ¬ rlC T r kind age n m ld = 0) : rlL T r kind age n m ld = [] := by unfold rlL; rw [if_neg h]
/-- The code of the best leaving. -/
noncomputable def blC (T : Tab) (r kind age n m ld : Int) : Int :=
  if polB T r kind age n m ld = true then (if T.dur kind (ix T age) n.toNat ≤ 2 then 4 else if T.D r (ix T age + T.dur kind (ix T age) n.toNat - 1) = 0 then 5 else 0) else 1
theorem blC_pol {T : Tab} {r kind age n m ld : Int} (h : polB T r kind age n m ld = false) : blC T r kind age n m ld = 1 := by unfold blC; rw [if_neg (by rw [h]; simp)]
/-- The code of a risk. -/
noncomputable def rkC (T : Tab) (r kind age n m ld j : Int) : Int :=
  if resC T r kind age n m ld j = 0 then (if j + 1 < T.dur kind (ix T age) n.toNat then (if T.D r (ix T age + (j.toNat + 1)) = 0 then 5 else 0) else 0) else resC T r kind age n m ld j
/-- A risk. -/
def rkV (T : Tab) (r kind : Int) (k n : Nat) (m : Int) (j : Nat) : Int :=
  (if kind = 3 ∨ (kind = 2 ∧ j + 1 = T.dur kind k n) then 0 else m) - (if j + 1 < T.dur kind k n then T.res r kind k n m (j + 1) else 0)
/-- Whether a term of y years can be paid by the value V. -/
def kyP (T : Tab) (r : Int) (i : Nat) (m V : Int) (y : Nat) : Bool := decide (up m (T.top r 1 i y) (T.D r i) ≤ V)
def kyV (T : Tab) (r kind : Int) (k n : Nat) (m : Int) (j : Nat) : Int := (ky (kyP T r (k + j) m (T.sv r kind k n m j)) (T.dur kind k n - j) : Nat)

section
variable {T : Tab} {r kind : Int} {k n : Nat} {m ld : Int} (h : PK T r kind k n m ld)
include h
theorem Pu.PK.rl_code : rlC T r kind (T.first + k) n m ld = if T.D r (k + T.dur kind k n - 1) = 0 then 5 else 0 := by
  unfold rlC; rw [if_pos h.pol, ix_k, Int.toNat_natCast]
theorem Pu.PK.rl_list (h0 : rlC T r kind (T.first + k) n m ld = 0) : rlL T r kind (T.first + k) n m ld = (List.range (T.dur kind k n)).map (T.rg r kind k n m) := by
  unfold rlL; rw [if_pos h0, ix_k, Int.toNat_natCast]
theorem Pu.PK.bl_code : blC T r kind (T.first + k) n m ld = if T.dur kind k n ≤ 2 then 4 else if T.D r (k + T.dur kind k n - 1) = 0 then 5 else 0 := by
  unfold blC; rw [if_pos h.pol, ix_k, Int.toNat_natCast]
/-- If D is 0 in a year, it is 0 in the last one. -/
theorem Pu.PK.d_last {j : Nat} (hj : j < T.dur kind k n) (hd : T.D r (k + j) = 0) : T.D r (k + T.dur kind k n - 1) = 0 := by
  rw [show k + T.dur kind k n - 1 = k + (T.dur kind k n - 1) from by omega]
  exact h.wh_mono (i := j) (by omega) hd
theorem Pu.PK.wh_dur : wh T r k (T.dur kind k n) = decide (¬ T.D r (k + T.dur kind k n - 1) = 0) := by
  have hd := h.dur_bd
  by_cases hz : T.D r (k + T.dur kind k n - 1) = 0
  · rw [decide_eq_false (by simpa using hz), Bool.eq_false_iff]
    intro e
    refine wh_iff.1 e (T.dur kind k n - 1) (by omega) ?_
    rw [show k + (T.dur kind k n - 1) = k + T.dur kind k n - 1 from by omega]; exact hz
  · rw [decide_eq_true hz, wh_iff]
    intro i hi e
    exact hz (h.d_last hi e)
theorem Pu.PK.rg_ok {j : Nat} (hd : ¬ T.D r (k + j) = 0) : T.rg r kind k n m j = T.res r kind k n m j := by unfold Tab.rg; rw [if_neg hd]
theorem Pu.PK.rg_zero {j : Nat} (hd : T.D r (k + j) = 0) : T.rg r kind k n m j = -1 := by unfold Tab.rg; rw [if_pos hd]
theorem Pu.PK.rg_all (hz : ¬ T.D r (k + T.dur kind k n - 1) = 0) {j : Nat} (hj : j < T.dur kind k n) : ¬ T.D r (k + j) = 0 := fun e => hz (h.d_last hj e)
end
theorem rlC_cases {T : Tab} {r kind age n m ld : Int} (h : rlC T r kind age n m ld = 0) : ∃ k n' : Nat, age = T.first + k ∧ n = n' ∧ PK T r kind k n' m ld ∧ ¬ T.D r (k + T.dur kind k n' - 1) = 0 := by
  by_cases hp : polB T r kind age n m ld = true
  · obtain ⟨k, n, rfl, rfl, hk⟩ := polB_ok hp
    refine ⟨k, n, rfl, rfl, hk, fun e => ?_⟩
    rw [hk.rl_code, if_pos e] at h; cases h
  · rw [rlC_pol (Bool.eq_false_iff.2 hp)] at h; cases h
/-- The greatest reserve and its year. -/
def grK (T : Tab) (r kind : Int) (k n : Nat) (m : Int) : Nat := bst (T.rg r kind k n m) (T.dur kind k n)
def grV (T : Tab) (r kind : Int) (k n : Nat) (m : Int) : Int := T.rg r kind k n m (grK T r kind k n m)
/-- The price of a term of y years can be reckoned. -/
theorem code7_term {T : Tab} (hT : T.Ok) {r : Int} (h0 : 0 ≤ r) (h1 : r ≤ 200) {i y : Nat} (hd : 1 ≤ T.D r i) (hy : 1 ≤ y) (hy2 : y ≤ 120) (hl : T.first + i + y ≤ 150) {m : Int} (m1 : 1 ≤ m) (m2 : m ≤ 100000000) :
    apC T r 1 (T.first + i) y m = 0 := by
  have hl0 := hT.lo
  have hf : fits 1 y = true := fits_iff.2 ⟨⟨by omega, by omega⟩, by omega⟩
  have hm : inR m 1 100000000 = true := inR_true.2 ⟨m1, m2⟩
  unfold apC code7
  refine code6_zero.2 ⟨code5_zero.2 ⟨hT, h0, h1, by omega, by omega⟩, ⟨by rw [hm, hf]; rfl, by omega, by omega, by omega⟩, ?_⟩
  rw [kk]; omega
theorem rlL_len (T : Tab) (r kind age n m ld : Int) : (rlL T r kind age n m ld).length ≤ 1048576 := by
  unfold rlL
  by_cases h : rlC T r kind age n m ld = 0
  · rw [if_pos h]
    by_cases hp : polB T r kind age n m ld = true
    · obtain ⟨k, n, rfl, rfl, hk⟩ := polB_ok hp
      have := hk.dur_bd
      rw [ix_k, Int.toNat_natCast]; simp; omega
    · rw [rlC_pol (Bool.eq_false_iff.2 hp)] at h; cases h
  · rw [if_neg h]; simp
end Go.Proofs.Ytdeoampkbbbleaa
