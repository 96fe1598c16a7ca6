/- Words for functions that return a number and a code; the reference's columns at an index. Condition: what each names. -/
import Derived.Test.YtdeoampkbbbleaaCode6
import Derived.Test.YtdeoampkbbbleaaDiv
import Derived.Test.YtdeoampkbbbleaaPureB
namespace Go.Proofs.Ytdeoampkbbbleaa
open Go.RowKit Pu

/-- A number and a code are returned. -/
def RetQ (w : World) (code val : Int) : Ending → World → Prop := Ret w (.tuple #[.int .i64 (if code = 0 then val else 0), .int .i64 code])
theorem RetQ_bad {w : World} {code val : Int} (h : ¬ code = 0) : RetQ w code val = Ret w (.tuple #[.int .i64 0, .int .i64 code]) := by unfold RetQ; rw [if_neg h]
theorem RetQ_ok {w : World} {val : Int} : RetQ w 0 val = Ret w (.tuple #[.int .i64 val, .int .i64 0]) := rfl
theorem RetQ_up {w w' : World} {e : Ending} {code val : Int} (h : RetQ w code val e w') : e = .returned (.tuple #[.int .i64 (if code = 0 then val else 0), .int .i64 code]) ∧ Up w w' := h

/-- What a code of none says. -/
theorem code6_ok {T : Tab} {r age : Int} {b : Bool} {n : Int} (h : code6 T r age b n = 0) : T.Ok ∧ 0 ≤ r ∧ r ≤ 200 ∧ b = true ∧ ∃ k m : Nat, age = T.first + k ∧ n = m ∧ m ≤ 120 ∧ T.first + k + m ≤ 150 ∧ 1 ≤ T.D r k := by
  obtain ⟨h1, ⟨h2, h3, h4, h5⟩, h6⟩ := code6_zero.1 h
  obtain ⟨hT, h7, h8, h9, h10⟩ := code5_zero.1 h1
  refine ⟨hT, h7, h8, h2, (age - T.first).toNat, n.toNat, by omega, by omega, by omega, by omega, ?_⟩
  have := (hT.D_bd h7 (age - T.first).toNat).1
  omega

theorem kk (a : Int) (k : Nat) : (a + k - a).toNat = k := by omega
theorem kmm (a : Int) (k m : Nat) : (a + k + m - a).toNat = k + m := by omega

section
variable {T : Tab} (hT : T.Ok) {r : Int} (h0 : 0 ≤ r) (h1 : r ≤ 200)
include hT h0 h1
theorem s_DK (k : Nat) (hb : T.first + k ≤ 300) (v : Value) (w : World) (hv : TabAt w T v) : Calls Try.prog 152 #[v, .int .i64 r, .int .i64 (T.first + k)] w (Ret w (.int .i64 (T.D r k))) := by
  have h := s_D hT h0 h1 (T.first + k) (by omega) hb v w hv; rwa [kk] at h
theorem s_DKM (k m : Nat) (hb : T.first + k + m ≤ 300) (v : Value) (w : World) (hv : TabAt w T v) : Calls Try.prog 152 #[v, .int .i64 r, .int .i64 (T.first + k + m)] w (Ret w (.int .i64 (T.D r (k + m)))) := by
  have h := s_D hT h0 h1 (T.first + k + m) (by omega) hb v w hv; rwa [kmm] at h
theorem s_NK (k : Nat) (v : Value) (w : World) (hv : TabAt w T v) : Calls Try.prog 199 #[v, .int .i64 r, .int .i64 (T.first + k)] w (Ret w (.int .i64 (T.N r k))) := by
  have h := s_N hT h0 h1 (T.first + k) (by omega) v w hv; rwa [kk] at h
theorem s_NKM (k m : Nat) (v : Value) (w : World) (hv : TabAt w T v) : Calls Try.prog 199 #[v, .int .i64 r, .int .i64 (T.first + k + m)] w (Ret w (.int .i64 (T.N r (k + m)))) := by
  have h := s_N hT h0 h1 (T.first + k + m) (by omega) v w hv; rwa [kmm] at h
theorem s_MK (k : Nat) (v : Value) (w : World) (hv : TabAt w T v) : Calls Try.prog 201 #[v, .int .i64 r, .int .i64 (T.first + k)] w (Ret w (.int .i64 (T.M r k))) := by
  have h := s_M hT h0 h1 (T.first + k) (by omega) v w hv; rwa [kk] at h
theorem s_MKM (k m : Nat) (v : Value) (w : World) (hv : TabAt w T v) : Calls Try.prog 201 #[v, .int .i64 r, .int .i64 (T.first + k + m)] w (Ret w (.int .i64 (T.M r (k + m)))) := by
  have h := s_M hT h0 h1 (T.first + k + m) (by omega) v w hv; rwa [kmm] at h
end
end Go.Proofs.Ytdeoampkbbbleaa
