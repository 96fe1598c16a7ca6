/- Words on AgePortfolio and the way through the reference. Condition: the slices read as the table's numbers, the holdings and the deaths. -/
import Derived.Test.YtdeoampkbbbleaaHoldO
import Derived.Test.YtdeoampkbbbleaaMat
namespace Go.Proofs.Ytdeoampkbbbleaa
open Go.RowKit Pu
set_option linter.unusedVariables false
set_option linter.unusedSimpArgs false

def ageU (g : Nat → Int) (d : Int) : Nat → Int := fun j => if j = 5 then g 5 + 1 else if j = 6 then g 6 - d else g j
def skipB (T : Tab) (g : Nat → Int) (d : Int) : Bool := decide (g 6 - d = 0) || lastB T g
def nextD (T : Tab) (r : Int) (g : Nat → Int) : Int := T.D r (g 1 + (g 5 + 1) - T.first).toNat
def ageP (T : Tab) (g : Nat → Nat → Int) (d : Nat → Int) : Nat → Nat × (Nat → Nat → Int)
  | 0 => (0, fun _ _ => 0)
  | k + 1 => if skipB T (g k) (d k) = true then ageP T g d k else ((ageP T g d k).1 + 1, addH (ageP T g d k).1 (ageP T g d k).2 (ageU (g k) (d k)))
theorem ageP_le (T : Tab) (g : Nat → Nat → Int) (d : Nat → Int) (k : Nat) : (ageP T g d k).1 ≤ k := by
  induction k with
  | zero => simp [ageP]
  | succ k ih => unfold ageP; split <;> (try simp only []) <;> omega
def inOk (n : Nat) (g : Nat → Nat → Int) (m : Nat) (d : Nat → Int) : Prop := m = n ∧ ∀ i, i < n → inR (d i) 0 (g i 6) = true
def badAt (T : Tab) (r : Int) (g : Nat → Nat → Int) (d : Nat → Int) (i : Nat) : Prop := skipB T (g i) (d i) = false ∧ nextD T r (g i) = 0
open Classical in
noncomputable def ageC (T : Tab) (r : Int) (n : Nat) (g : Nat → Nat → Int) (m : Nat) (d : Nat → Int) : Int := if portB T r n g = true then (if inOk n g m d then (if ∃ i, i < n ∧ badAt T r g d i then 5 else 0) else 2) else 1
noncomputable def ageN (T : Tab) (r : Int) (n : Nat) (g : Nat → Nat → Int) (m : Nat) (d : Nat → Int) : Nat := if ageC T r n g m d = 0 then (ageP T g d n).1 else 0
noncomputable def ageG (T : Tab) (r : Int) (n : Nat) (g : Nat → Nat → Int) (m : Nat) (d : Nat → Int) : Nat → Nat → Int := if ageC T r n g m d = 0 then (ageP T g d n).2 else fun _ _ => 0
/-- The slice v reads as the numbers d. -/
def DAt (w : World) (v : Value) (m : Nat) (d : Nat → Int) : Prop := ∃ A c, v = .slice A m c ∧ m ≤ c ∧ c ≤ 9223372036854775807 ∧ Ints w A m d
theorem DAt.up {w w' : World} {v m d} (h : DAt w v m d) (u : Up w w') : DAt w' v m d := by
  obtain ⟨A, c, h1, h2, h3, h4⟩ := h
  exact ⟨A, c, h1, h2, h3, h4.up u⟩
/-- Holdings and a code are returned. -/
def RetAge (w : World) (N : Nat) (G : Nat → Nat → Int) (C : Int) (e : Ending) (w' : World) : Prop := ∃ v, e = .returned (.tuple #[v, .int .i64 C]) ∧ Up w w' ∧ OwnH w w' v N G
theorem ret_bad {w : World} {T : Tab} {r : Int} {n m : Nat} {g : Nat → Nat → Int} {d : Nat → Int} {C : Int} (h : ageC T r n g m d = C) (hC : ¬ C = 0) : RetAge w (ageN T r n g m d) (ageG T r n g m d) (ageC T r n g m d) = RetAge w 0 (fun _ _ => 0) C := by
  unfold ageN ageG; rw [h, if_neg hC, if_neg hC]
theorem ret_okA {w : World} {T : Tab} {r : Int} {n m : Nat} {g : Nat → Nat → Int} {d : Nat → Int} (h : ageC T r n g m d = 0) : RetAge w (ageN T r n g m d) (ageG T r n g m d) (ageC T r n g m d) = RetAge w (ageP T g d n).1 (ageP T g d n).2 0 := by
  unfold ageN ageG; rw [h, if_pos rfl, if_pos rfl]
theorem ageC_1 {T : Tab} {r : Int} {n m : Nat} {g : Nat → Nat → Int} {d : Nat → Int} (h : ¬ portB T r n g = true) : ageC T r n g m d = 1 := by unfold ageC; rw [if_neg h]
theorem ageC_2 {T : Tab} {r : Int} {n m : Nat} {g : Nat → Nat → Int} {d : Nat → Int} (h : portB T r n g = true) (h2 : ¬ inOk n g m d) : ageC T r n g m d = 2 := by unfold ageC; rw [if_pos h, if_neg h2]
theorem ageC_5 {T : Tab} {r : Int} {n m : Nat} {g : Nat → Nat → Int} {d : Nat → Int} (h : portB T r n g = true) (h2 : inOk n g m d) (h3 : ∃ i, i < n ∧ badAt T r g d i) : ageC T r n g m d = 5 := by unfold ageC; rw [if_pos h, if_pos h2, if_pos h3]
theorem ageC_0 {T : Tab} {r : Int} {n m : Nat} {g : Nat → Nat → Int} {d : Nat → Int} (h : portB T r n g = true) (h2 : inOk n g m d) (h3 : ¬ ∃ i, i < n ∧ badAt T r g d i) : ageC T r n g m d = 0 := by unfold ageC; rw [if_pos h, if_pos h2, if_neg h3]
/-- What the rounds want of a holding: its bounds, and the last year's test with any count. -/
theorem age_facts {T : Tab} {r : Int} {g : Nat → Int} (h : portOk T r g) : T.Ok ∧ 0 ≤ r ∧ r ≤ 200 ∧ T.first ≤ g 1 ∧ g 1 + g 5 ≤ 270 ∧ 0 ≤ g 5 ∧ g 5 ≤ 120 ∧ 0 ≤ g 6 ∧ g 6 ≤ 1000000 := by
  obtain ⟨k, n, j, e1, e2, e3, hk, hj, hd⟩ := resC_ok h.1
  have hc := inR_true.1 h.2
  have hl := hk.hl
  have db := hk.dur_bd
  rw [e1, e3]
  exact ⟨hk.hT, hk.h0, hk.h1, by omega, by omega, by omega, by omega, hc.1, hc.2⟩
theorem s_LastQ {T : Tab} {r : Int} {g : Nat → Int} (h : portOk T r g) {L : Bool} (hL : lastB T g = L) (q : Int) (v : Value) (w : World) (hv : BasAt w T r v) :
    Calls Try.prog 150 #[v, .agg #[.int .i64 (g 0), .int .i64 (g 1), .int .i64 (g 2), .int .i64 (g 3), .int .i64 (g 4), .int .i64 (g 5), .int .i64 q]] w (Ret w (.bool L)) := by
  obtain ⟨k, n, j, e1, e2, e3, hk, hj, hd⟩ := resC_ok h.1
  subst hL
  unfold lastB
  rw [e1, e2, e3, ix_k, Int.toNat_natCast]
  exact s_Last0 hk j q _ rfl v w hv
end Go.Proofs.Ytdeoampkbbbleaa
