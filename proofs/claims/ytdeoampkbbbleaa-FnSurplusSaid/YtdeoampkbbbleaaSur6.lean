/- What the law of the surplus needs of a year, both sides. Condition: the year's numbers lie within 3 * 10^12. -/
import Derived.Test.YtdeoampkbbbleaaPureSur
import Derived.Test.YtdeoampkbbbleaaSur5
import Derived.Test.YtdeoampkbbbleaaLike
namespace Go.Proofs.Ytdeoampkbbbleaa
open Go.RowKit Pu
set_option linter.unusedVariables false
set_option linter.unusedSimpArgs false

/-- What the sources, the worst one and the sums answer, and how they hang together. -/
structure SurF (y : Yr) (r K wv nv k1 ev rv : Int) (okb : Bool) (xs : List Int) : Prop where
  h1 : Hid (∀ w, Calls Try.prog 40 #[y.v, .int .i64 r] w (RetIC w xs K))
  h2 : Hid (∀ w, Calls Try.prog 41 #[y.v, .int .i64 r] w (RetIC w xs K))
  h3 : Hid (∀ w, Calls Try.prog 42 #[y.v, .int .i64 r] w (Ret w (.tuple #[.int .i64 wv, .int .i64 K])))
  h4 : Hid (∀ w, Calls Try.prog 43 #[y.v, .int .i64 r] w (Ret w (.tuple #[.int .i64 wv, .int .i64 K])))
  h5 : Hid (∀ w, Calls Try.prog 44 #[y.v] w (Ret w (.tuple #[.int .i64 nv, .int .i64 k1])))
  h6 : Hid (∀ w, Calls Try.prog 45 #[y.v] w (Ret w (.tuple #[.int .i64 nv, .int .i64 k1])))
  h7 : Hid (∀ w, Calls Try.prog 46 #[y.v] w (Ret w (.tuple #[.int .i64 ev, .int .i64 k1])))
  h8 : Hid (∀ w, Calls Try.prog 47 #[y.v] w (Ret w (.tuple #[.int .i64 ev, .int .i64 k1])))
  h9 : Hid (∀ w, Calls Try.prog 48 #[y.v] w (Ret w (.tuple #[.int .i64 rv, .int .i64 k1])))
  h10 : Hid (∀ w, Calls Try.prog 49 #[y.v] w (Ret w (.tuple #[.int .i64 rv, .int .i64 k1])))
  h11 : Hid (∀ w, Calls Try.prog 51 #[y.v] w (Ret w (.bool okb)))
  len : xs.length ≤ 3
theorem Yr.src_abs {y : Yr} (h : y.Ok) {r : Int} (h0 : 0 ≤ r) (h1 : r ≤ 200) (i : Nat) : -9000000000000 ≤ y.sg r i ∧ y.sg r i ≤ 9000000000000 := by
  have he := y.exp_le h h0 h1
  have hh := h
  unfold Yr.Ok at hh
  unfold Yr.sg Yr.src
  match i with
  | 0 => show -9000000000000 ≤ y.a4 - y.exp r ∧ y.a4 - y.exp r ≤ 9000000000000; omega
  | 1 => show -9000000000000 ≤ y.a2 - y.a3 ∧ y.a2 - y.a3 ≤ 9000000000000; omega
  | 2 => show -9000000000000 ≤ y.a0 + y.a1 + y.exp r - y.a5 - y.a6 ∧ y.a0 + y.a1 + y.exp r - y.a5 - y.a6 ≤ 9000000000000; omega
  | k + 3 => show -9000000000000 ≤ (0 : Int) ∧ (0 : Int) ≤ 9000000000000; omega
theorem sur_facts (y : Yr) (r : Int) (hB : y.Bd) : ∃ K wv nv k1 ev rv okb xs, SurF y r K wv nv k1 ev rv okb xs ∧
    ((okb = false ∧ k1 = 1 ∧ K = 1) ∨ (okb = true ∧ k1 = 0 ∧ 0 ≤ rv ∧ rv ≤ 200 ∧
      (K = 2 ∨ (K = 0 ∧ ∃ (s0 s1 s2 sw : Int) (wn : Nat), xs = [s0, s1, s2] ∧ wv = wn ∧ wn < 3 ∧ xs.getD wn 0 = sw ∧ sw ≤ s0 ∧ sw ≤ s1 ∧ sw ≤ s2 ∧ ev - y.a6 = nv ∧ s0 + s1 + s2 = nv ∧ (-9000000000000 ≤ s0 ∧ s0 ≤ 9000000000000) ∧ (-9000000000000 ≤ s1 ∧ s1 ≤ 9000000000000) ∧ (-9000000000000 ≤ s2 ∧ s2 ≤ 9000000000000))) ∧
      (∃ x0 x1 x2 : Int, 0 ≤ x0 ∧ Hid (∀ w, Calls Try.prog 40 #[y.v, .int .i64 rv] w (RetIC w [x0, x1, x2] 0))) ∧
      (rv < 200 → ∃ x0 x1 x2 : Int, x0 < 0 ∧ Hid (∀ w, Calls Try.prog 40 #[y.v, .int .i64 (rv + 1)] w (RetIC w [x0, x1, x2] 0))))) := by
  have F : SurF y r (y.code r) (if y.code r = 0 then y.ws r else 0) (if y.ok then y.fin - y.a6 else 0) (if y.ok then 0 else 1) (if y.ok then y.fin else 0) (if y.ok then y.er 200 else 0) y.ok (y.srcs r) :=
    { h1 := Lib.hid (i_SourcesOf y r), h2 := Lib.hid (s_SourcesOf y r), h3 := Lib.hid (i_Worst y r), h4 := Lib.hid (s_Worst y r), h5 := Lib.hid (i_SurplusOf y hB), h6 := Lib.hid (s_SurplusOf y hB), h7 := Lib.hid (i_EndFund y hB), h8 := Lib.hid (s_EndFund y hB), h9 := Lib.hid (i_Earned y), h10 := Lib.hid (s_Earned y), h11 := Lib.hid (i_IsYear y), len := by unfold Yr.srcs Yr.src; split <;> simp }
  refine ⟨_, _, _, _, _, _, _, _, F, ?_⟩
  by_cases hok : y.ok = true
  case neg =>
    have hok := Bool.eq_false_iff.2 hok
    left
    refine ⟨hok, by rw [hok]; rfl, by unfold Yr.code; rw [hok]; rfl⟩
  right
  have hO : y.Ok := by unfold Yr.ok at hok; exact of_decide_eq_true hok
  have hle := y.er_le 200
  have C (q : Int) (h0 : 0 ≤ q) (h1 : q ≤ 200) : y.code q = 0 ∧ y.srcs q = y.src q := by
    have e : y.code q = 0 := by unfold Yr.code; rw [if_pos hok, if_pos (inR_true.2 ⟨h0, h1⟩)]
    exact ⟨e, by unfold Yr.srcs; rw [if_pos e]⟩
  rw [if_pos hok, if_pos hok, if_pos hok, if_pos hok]
  refine ⟨hok, rfl, by omega, by omega, ?_, ?_, ?_⟩
  · by_cases hr : inR r 0 200 = true
    · right
      have b := inR_true.1 hr
      obtain ⟨e1, e2⟩ := C r b.1 b.2
      have m := y.ws_min r
      have sm := y.src_sum r
      refine ⟨e1, y.sg r 0, y.sg r 1, y.sg r 2, y.sg r (y.ws r), y.ws r, by rw [e2]; rfl, by rw [if_pos e1], y.ws_lt r, by rw [e2]; rfl, by omega, by omega, by omega, rfl, sm, Yr.src_abs hO b.1 b.2 0, Yr.src_abs hO b.1 b.2 1, Yr.src_abs hO b.1 b.2 2⟩
    · left
      unfold Yr.code; rw [if_pos hok, if_neg hr]
  · obtain ⟨e1, e2⟩ := C (y.er 200) (by omega) (by omega)
    have h := i_SourcesOf y (y.er 200)
    rw [e1, e2] at h
    refine ⟨_, _, _, ?_, Lib.hid h⟩
    have := Yr.er_ok hO 200
    omega
  · intro hlt
    obtain ⟨e1, e2⟩ := C ((y.er 200 : Int) + 1) (by omega) (by omega)
    have h := i_SourcesOf y ((y.er 200 : Int) + 1)
    rw [e1, e2] at h
    refine ⟨_, _, _, ?_, Lib.hid h⟩
    have := Yr.er_next hO 200 (by omega)
    omega
end Go.Proofs.Ytdeoampkbbbleaa
