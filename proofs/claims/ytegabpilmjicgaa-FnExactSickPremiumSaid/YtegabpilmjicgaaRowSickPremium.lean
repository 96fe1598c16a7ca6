/- The law FnExactSickPremium: for all arguments the call returns true, and the arguments read as before. No condition. -/
import Derived.Test.YtegabpilmjicgaaOpen
import Derived.Test.YtegabpilmjicgaaOpenS
import Derived.Test.YtegabpilmjicgaaLaw2
import Derived.Test.YtegabpilmjicgaaI09c
import Derived.Test.YtegabpilmjicgaaGraph
namespace Go.Proofs.Ytegabpilmjicgaa.rowSickPremium
open Go.ChangeShapes Go.WideShapes Go.ChangeAt Go.RowKit Pu
set_option linter.unusedVariables false

set_option maxRecDepth 100000 in
theorem lifted (os : Os) (started : os.Started) (H : Type) (enc : TypeId × Value → H) :
    ReturnsInHanded {} Try.checked os 23 .any (Rows.fnExactSickPremiumSpec.pre6 enc Try.prog Try.f23 Rows.fnExactSickPremiumRow.domain false) (Rows.fnExactSickPremiumSpec.post enc Try.prog Try.f23 false true false false) := by
  refine returnsInHanded_of_change (C := Try.checked) own_ started (by kernel_rfl) Try.func23
    (ChangeSpec.witness6 (enc := enc) (C := Try.checked) false ⟨#[], #[.agg #[.int .i64 0, .slice none 0 0], .agg #[.int .i64 0, .slice none 0 0], .int .i64 0, .int .i64 0, .int .i64 0, .int .i64 0], []⟩ 8 (by kernel_rfl) (by kernel_rfl) (by kernel_rfl) (by kernel_rfl)) ?_
  intro W base args ds gs before hval0 hW hcnd _
  have hval : ∀ (j : Nat) t v, Try.f23.params[j]? = some t → args[j]? = some v → Value.okWide Try.prog W .any base t v := hval0
  have hW' := hW
  obtain ⟨p, q, hA0, hV, rfl, hfz, hnd⟩ := hW
  have hA : DataW.TrodAll enc Try.prog W 0 (fun _ => true) true Try.f23.params.toList args.toList ds p := hA0
  rw [Try.params23] at hA hval
  obtain ⟨v0, vs0, d0, ds0, p0, q0, hargs, rfl, rfl, h0, r0⟩ := trodAll_cons hA
  obtain ⟨v1, vs1, d1, ds1, p1, q1, rfl, rfl, rfl, h1, r1⟩ := trodAll_cons r0
  obtain ⟨v2, vs2, d2, ds2, p2, q2, rfl, rfl, rfl, h2, r2⟩ := trodAll_cons r1
  obtain ⟨v3, vs3, d3, ds3, p3, q3, rfl, rfl, rfl, h3, r3⟩ := trodAll_cons r2
  obtain ⟨v4, vs4, d4, ds4, p4, q4, rfl, rfl, rfl, h4, r4⟩ := trodAll_cons r3
  obtain ⟨v5, vs5, d5, ds5, p5, q5, rfl, rfl, rfl, h5, r5⟩ := trodAll_cons r4
  obtain ⟨rfl, rfl, rfl⟩ := trodAll_nil r5
  obtain rfl : args = #[v0, v1, v2, v3, v4, v5] := by cases args; simp_all
  obtain ⟨rfl, rfl⟩ := trodVars_none hV
  have k0 := h0
  have lt0 : ∀ x ∈ p0, x.block < W.heap.size := by obtain ⟨m, hm⟩ := k0; exact DataW.trod_lt m _ _ _ hm
  obtain ⟨first0, A0, n0, c0, f0, rfl, hn0, hc0, hI0⟩ := open_LifeTable (hval 0 24 v0 rfl rfl) h0
  have k1 := h1
  have lt1 : ∀ x ∈ p1, x.block < W.heap.size := by obtain ⟨m, hm⟩ := k1; exact DataW.trod_lt m _ _ _ hm
  obtain ⟨first1, A1, n1, c1, f1, rfl, hn1, hc1, hI1⟩ := open_SickTable (hval 1 50 v1 rfl rfl) h1
  obtain ⟨a2, rfl, rfl, rfl, w2⟩ := open_int Try.underlying2 (hval 2 2 v2 rfl rfl) h2
  obtain ⟨a3, rfl, rfl, rfl, w3⟩ := open_int Try.underlying2 (hval 3 2 v3 rfl rfl) h3
  obtain ⟨a4, rfl, rfl, rfl, w4⟩ := open_int Try.underlying2 (hval 4 2 v4 rfl rfl) h4
  obtain ⟨a5, rfl, rfl, rfl, w5⟩ := open_int Try.underlying2 (hval 5 2 v5 rfl rfl) h5
  clear hA0 hval0
  refine (l_SickPremium ⟨first0, n0, f0⟩ ⟨first1, n1, f1⟩ A0 A1 c0 c1 hn0 hc0 hn1 hc1 a2 a3 a4 a5 W hI0 hI1 _ _ (Lib.hid fun v z w h k => s_SP ⟨first0, n0, f0⟩ ⟨first1, n1, f1⟩ a2 a3 a4 a5 v z w h k) (Lib.hid fun v z w h k => i_SP ⟨first0, n0, f0⟩ ⟨first1, n1, f1⟩ a2 a3 a4 a5 v z w h k)).mono fun e W' ⟨he, bel⟩ => ?_
  subst he
  exact ⟨_, rfl, _, _, _, [], _, [], hW', trodAll_mk1 (shut_bool Try.underlying4 _), (trodAll_cons_mk (Below.trod laidOut_ (by kernel_rfl) (of_decide_eq_true (by kernel_rfl)) k0 bel lt0) (trodAll_cons_mk (Below.trod laidOut_ (by kernel_rfl) (of_decide_eq_true (by kernel_rfl)) k1 bel lt1) (trodAll_cons_mk (shut_int Try.underlying2 w2) (trodAll_cons_mk (shut_int Try.underlying2 w3) (trodAll_cons_mk (shut_int Try.underlying2 w4) (trodAll_cons_mk (shut_int Try.underlying2 w5) trodAll_mk0)))))), rfl, Below.frame bel _, fun h => by cases h⟩

theorem facts : joinedFacts Try.pinned.checked.prog 23 Try.f23 Rows.fnExactSickPremiumSpec Rows.fnExactSickPremiumRow = true := by
  refine facts_mk (cl := [23, 25, 79, 70, 27, 81, 72, 75, 115, 145, 92, 156, 91, 125, 149, 142, 89, 128, 129, 116, 146, 99, 93, 94, 102, 76, 117, 103, 136, 96, 147, 157, 161, 160, 162, 104, 105, 137, 138, 139, 155, 140, 148, 100, 135, 97, 133, 134, 154, 159, 30, 29, 74]) ?_ ?_ ?_ ?_ ?_ ?_ ?_ ?_ ?_ ?_ ?_ ?_ ?_ ?_ ?_ ?_ ?_ ?_ ?_ ?_ ?_ ?_ ?_ ?_ ?_ ?_ ?_
  all_goals as_aux_lemma => kernel_rfl
theorem over : Rows.fnExactSickPremiumRow.holds Try.pinned (OpenSpec.ofChange Rows.fnExactSickPremiumSpec) :=
  OpenClaim.holds_of_wide 23 Try.f23 rfl rfl rfl rfl rfl rfl rfl ⟨rfl, rfl, rfl, rfl, rfl⟩ rfl rfl rfl rfl rfl (by kernel_rfl) Try.func23 facts
    (of_decide_eq_true (by kernel_rfl)) (by unfold Func.isWrapper; first | (rw [if_pos (by decide +kernel)]; kernel_rfl) | (rw [if_neg (by decide +kernel)]; exact ⟨rfl, rfl⟩))
    (fun os started H enc _ => lifted os started H enc)

theorem proved : Rows.FnExactSickPremiumSaid := over
end Go.Proofs.Ytegabpilmjicgaa.rowSickPremium
