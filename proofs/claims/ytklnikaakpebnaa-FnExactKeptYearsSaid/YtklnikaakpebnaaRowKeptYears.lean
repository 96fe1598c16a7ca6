/- The law FnExactKeptYears: for all arguments the call returns true, and the arguments read as before. No condition. -/
import Derived.Test.YtklnikaakpebnaaOpen
import Derived.Test.YtklnikaakpebnaaOpenP
import Derived.Test.YtklnikaakpebnaaLawB2
import Derived.Test.YtklnikaakpebnaaS13k
import Derived.Test.YtklnikaakpebnaaI13b
import Derived.Test.YtklnikaakpebnaaGraph
namespace Go.Proofs.Ytklnikaakpebnaa.rowKeptYears
open Go.ChangeShapes Go.WideShapes Go.ChangeAt Go.RowKit Pu
set_option linter.unusedVariables false

set_option maxRecDepth 100000 in
theorem lifted (os : Os) (started : os.Started) (H : Type) (enc : TypeId × Value → H) :
    ReturnsInHanded {} Try.checked os 8 .any (Rows.fnExactKeptYearsSpec.pre6 enc Try.prog Try.f8 Rows.fnExactKeptYearsRow.domain false) (Rows.fnExactKeptYearsSpec.post enc Try.prog Try.f8 false true false false) := by
  refine returnsInHanded_of_change (C := Try.checked) own_ started (by kernel_rfl) Try.func8
    (ChangeSpec.witness6 (enc := enc) (C := Try.checked) false ⟨#[], #[.agg #[.int .i64 0, .slice none 0 0, .int .i64 0], .agg #[.int .i64 0, .int .i64 0, .int .i64 0, .int .i64 0, .int .i64 0], .int .i64 0], []⟩ 8 (by kernel_rfl) (by kernel_rfl) (by kernel_rfl) (by kernel_rfl)) ?_
  intro W base args ds gs before hval0 hW hcnd _
  have hval : ∀ (j : Nat) t v, Try.f8.params[j]? = some t → args[j]? = some v → Value.okWide Try.prog W .any base t v := hval0
  have hW' := hW
  obtain ⟨p, q, hA0, hV, rfl, hfz, hnd⟩ := hW
  have hA : DataW.TrodAll enc Try.prog W 0 (fun _ => true) true Try.f8.params.toList args.toList ds p := hA0
  rw [Try.params8] at hA hval
  obtain ⟨v0, vs0, d0, ds0, p0, q0, hargs, rfl, rfl, h0, r0⟩ := trodAll_cons hA
  obtain ⟨v1, vs1, d1, ds1, p1, q1, rfl, rfl, rfl, h1, r1⟩ := trodAll_cons r0
  obtain ⟨v2, vs2, d2, ds2, p2, q2, rfl, rfl, rfl, h2, r2⟩ := trodAll_cons r1
  obtain ⟨rfl, rfl, rfl⟩ := trodAll_nil r2
  obtain rfl : args = #[v0, v1, v2] := by cases args; simp_all
  obtain ⟨rfl, rfl⟩ := trodVars_none hV
  have k0 := h0
  have lt0 : ∀ x ∈ p0, x.block < W.heap.size := by obtain ⟨m, hm⟩ := k0; exact DataW.trod_lt m _ _ _ hm
  obtain ⟨first0, A0, n0, c0, f0, q0, rfl, hn0, hc0, hI0⟩ := open_Basis (hval 0 36 v0 rfl rfl) h0
  have k1 := h1
  have lt1 : ∀ x ∈ p1, x.block < W.heap.size := by obtain ⟨m, hm⟩ := k1; exact DataW.trod_lt m _ _ _ hm
  obtain ⟨b0, b1, b2, b3, b4, rfl⟩ := open_Policy (hval 1 38 v1 rfl rfl) h1
  obtain ⟨a2, rfl, rfl, rfl, w2⟩ := open_int Try.underlying2 (hval 2 2 v2 rfl rfl) h2
  clear hA0 hval0
  refine (l_KeptYears ⟨first0, n0, f0⟩ q0 A0 c0 hn0 hc0 b0 b1 b2 b3 b4 a2 W hI0 _ _ (Lib.hid fun v w h => s_KeptYears ⟨first0, n0, f0⟩ q0 b0 b1 b2 b3 b4 a2 v w h) (Lib.hid fun v w h => i_KeptYears ⟨first0, n0, f0⟩ q0 b0 b1 b2 b3 b4 a2 v w h)).mono fun e W' ⟨he, bel⟩ => ?_
  subst he
  exact ⟨_, rfl, _, _, _, [], _, [], hW', trodAll_mk1 (shut_bool Try.underlying4 _), (trodAll_cons_mk (Below.trod laidOut_ (by kernel_rfl) (of_decide_eq_true (by kernel_rfl)) k0 bel lt0) (trodAll_cons_mk (Below.trod laidOut_ (by kernel_rfl) (of_decide_eq_true (by kernel_rfl)) k1 bel lt1) (trodAll_cons_mk (shut_int Try.underlying2 w2) trodAll_mk0))), rfl, Below.frame bel _, fun h => by cases h⟩

theorem facts : joinedFacts Try.pinned.checked.prog 8 Try.f8 Rows.fnExactKeptYearsSpec Rows.fnExactKeptYearsRow = true := by
  refine facts_mk (cl := [8, 47, 36, 191, 49, 38, 67, 50, 53, 213, 216, 204, 157, 286, 218, 287, 226, 298, 291, 273, 198, 235, 302, 205, 261, 206, 242, 239, 231, 312, 214, 275, 274, 284, 197, 233, 299, 196, 243, 232, 54, 215, 217, 155, 156, 133, 211, 227, 248, 285, 323, 272, 321, 322, 238, 305, 237, 283, 208, 306, 324, 241, 158, 288, 236, 313, 244, 314, 315, 326, 328, 307, 240, 212, 309, 180, 52, 40, 69]) ?_ ?_ ?_ ?_ ?_ ?_ ?_ ?_ ?_ ?_ ?_ ?_ ?_ ?_ ?_ ?_ ?_ ?_ ?_ ?_ ?_ ?_ ?_ ?_ ?_ ?_ ?_
  all_goals as_aux_lemma => kernel_rfl
theorem over : Rows.fnExactKeptYearsRow.holds Try.pinned (OpenSpec.ofChange Rows.fnExactKeptYearsSpec) :=
  OpenClaim.holds_of_wide 8 Try.f8 rfl rfl rfl rfl rfl rfl rfl ⟨rfl, rfl, rfl, rfl, rfl⟩ rfl rfl rfl rfl rfl (by kernel_rfl) Try.func8 facts
    (of_decide_eq_true (by kernel_rfl)) (by unfold Func.isWrapper; first | (rw [if_pos (by decide +kernel)]; kernel_rfl) | (rw [if_neg (by decide +kernel)]; exact ⟨rfl, rfl⟩))
    (fun os started H enc _ => lifted os started H enc)

theorem proved : Rows.FnExactKeptYearsSaid := over
end Go.Proofs.Ytklnikaakpebnaa.rowKeptYears
