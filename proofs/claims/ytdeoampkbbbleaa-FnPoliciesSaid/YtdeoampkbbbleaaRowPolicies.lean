/- The law FnPolicies: for all arguments the call returns true, and the arguments read as before. No condition. -/
import Derived.Test.YtdeoampkbbbleaaOpen
import Derived.Test.YtdeoampkbbbleaaOpenC
import Derived.Test.YtdeoampkbbbleaaLawL
import Derived.Test.YtdeoampkbbbleaaGraph
namespace Go.Proofs.Ytdeoampkbbbleaa.rowPolicies
open Go.ChangeShapes Go.WideShapes Go.ChangeAt Go.RowKit Pu
set_option linter.unusedVariables false

set_option maxRecDepth 100000 in
theorem lifted (os : Os) (started : os.Started) (H : Type) (enc : TypeId × Value → H) :
    ReturnsInHanded {} Try.checked os 12 .any (Rows.fnPoliciesSpec.pre6 enc Try.prog Try.f12 Rows.fnPoliciesRow.domain false) (Rows.fnPoliciesSpec.post enc Try.prog Try.f12 false true false false) := by
  refine returnsInHanded_of_change (C := Try.checked) own_ started (by kernel_rfl) Try.func12
    (ChangeSpec.witness6 (enc := enc) (C := Try.checked) false ⟨#[], #[.slice none 0 0], []⟩ 8 (by kernel_rfl) (by kernel_rfl) (by kernel_rfl) (by kernel_rfl)) ?_
  intro W base args ds gs before hval0 hW hcnd _
  have hval : ∀ (j : Nat) t v, Try.f12.params[j]? = some t → args[j]? = some v → Value.okWide Try.prog W .any base t v := hval0
  have hW' := hW
  obtain ⟨p, q, hA0, hV, rfl, hfz, hnd⟩ := hW
  have hA : DataW.TrodAll enc Try.prog W 0 (fun _ => true) true Try.f12.params.toList args.toList ds p := hA0
  rw [Try.params12] at hA hval
  obtain ⟨v0, vs0, d0, ds0, p0, q0, hargs, rfl, rfl, h0, r0⟩ := trodAll_cons hA
  obtain ⟨rfl, rfl, rfl⟩ := trodAll_nil r0
  obtain rfl : args = #[v0] := by cases args; simp_all
  obtain ⟨rfl, rfl⟩ := trodVars_none hV
  have k0 := h0
  have lt0 : ∀ x ∈ p0, x.block < W.heap.size := by obtain ⟨m, hm⟩ := k0; exact DataW.trod_lt m _ _ _ hm
  obtain ⟨A0, n0, c0, rfl, hI0⟩ := open_Code (hval 0 50 v0 rfl rfl) h0
  clear hA0 hval0
  refine (l_Policies A0 n0 c0 W hI0).mono fun e W' ⟨he, bel⟩ => ?_
  subst he
  exact ⟨_, rfl, _, _, _, [], _, [], hW', trodAll_mk1 (shut_bool Try.underlying4 _), (trodAll_cons_mk (Below.trod laidOut_ (by kernel_rfl) (of_decide_eq_true (by kernel_rfl)) k0 bel lt0) trodAll_mk0), rfl, Below.frame bel _, fun h => by cases h⟩

theorem facts : joinedFacts Try.pinned.checked.prog 12 Try.f12 Rows.fnPoliciesSpec Rows.fnPoliciesRow = true := by
  refine facts_mk (cl := [12, 38, 86, 162, 208, 233, 195, 182, 185, 183, 256, 255, 142, 251, 261, 268, 164, 184, 179, 234, 98, 221, 222, 211, 236, 235, 226, 198, 152, 157, 247, 87, 96, 97, 74, 194, 186, 165, 220, 262, 197, 258, 259, 161, 248, 160, 209, 210, 223, 263, 231, 264, 265, 269, 270, 88, 212, 199, 213, 201, 200, 215, 237, 158, 232, 214, 89, 216, 99, 159, 250, 90, 91, 217, 260, 267, 92, 218, 93, 154, 94, 219, 95]) ?_ ?_ ?_ ?_ ?_ ?_ ?_ ?_ ?_ ?_ ?_ ?_ ?_ ?_ ?_ ?_ ?_ ?_ ?_ ?_ ?_ ?_ ?_ ?_ ?_ ?_ ?_
  all_goals as_aux_lemma => kernel_rfl
theorem over : Rows.fnPoliciesRow.holds Try.pinned (OpenSpec.ofChange Rows.fnPoliciesSpec) :=
  OpenClaim.holds_of_wide 12 Try.f12 rfl rfl rfl rfl rfl rfl rfl ⟨rfl, rfl, rfl, rfl, rfl⟩ rfl rfl rfl rfl rfl (by kernel_rfl) Try.func12 facts
    (of_decide_eq_true (by kernel_rfl)) (by unfold Func.isWrapper; first | (rw [if_pos (by decide +kernel)]; kernel_rfl) | (rw [if_neg (by decide +kernel)]; exact ⟨rfl, rfl⟩))
    (fun os started H enc _ => lifted os started H enc)

theorem proved : Rows.FnPoliciesSaid := over
end Go.Proofs.Ytdeoampkbbbleaa.rowPolicies
