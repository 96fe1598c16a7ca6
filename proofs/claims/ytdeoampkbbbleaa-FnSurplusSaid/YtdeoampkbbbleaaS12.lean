/- Contracts of the reference's answers on leaving. Condition: the slice reads as the table's numbers. -/
import Derived.Test.YtdeoampkbbbleaaS11b
namespace Go.Proofs.Ytdeoampkbbbleaa
open Go.RowKit Pu

theorem lvC_ok {T : Tab} {r kind age n m ld j : Int} (h : lvC T r kind age n m ld j = 0) : ∃ k n' j' : Nat, age = T.first + k ∧ n = n' ∧ j = j' ∧ PK T r kind k n' m ld ∧ j' < T.dur kind k n' ∧ 1 ≤ T.D r (k + j') ∧ 2 ≤ j' := by
  unfold lvC at h
  by_cases hz : resC T r kind age n m ld j = 0
  · rw [if_pos hz] at h
    obtain ⟨k, n, j, rfl, rfl, rfl, hk, hj, hd⟩ := resC_ok hz
    refine ⟨k, n, j, rfl, rfl, rfl, hk, hj, hd, ?_⟩
    split at h
    · cases h
    · omega
  · rw [if_neg hz] at h; exact absurd h hz
section
variable {T : Tab} {r kind : Int} {k n : Nat} {m ld : Int} (h : PK T r kind k n m ld)
include h
end
/-- The paid-up sum. -/
def puV (T : Tab) (r kind : Int) (k n : Nat) (m : Int) (j : Nat) : Int := if T.top r kind (k + j) (n - j) = 0 then 0 else min m (qd (T.sv r kind k n m j) (T.D r (k + j)) (T.top r kind (k + j) (n - j)))
end Go.Proofs.Ytdeoampkbbbleaa
