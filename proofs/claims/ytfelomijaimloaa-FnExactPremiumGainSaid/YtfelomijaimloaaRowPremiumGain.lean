/- The law FnExactPremiumGain: for all arguments the call returns true, and the arguments read as before. No condition. -/
import Derived.Test.YtfelomijaimloaaOpen
import Derived.Test.YtfelomijaimloaaOpenP
import Derived.Test.YtfelomijaimloaaLawB
import Derived.Test.YtfelomijaimloaaS10b
import Derived.Test.YtfelomijaimloaaI10b
import Derived.Test.YtfelomijaimloaaGraph
namespace Go.Proofs.Ytfelomijaimloaa.rowPremiumGain
open Go.ChangeShapes Go.WideShapes Go.ChangeAt Go.RowKit Pu
set_option linter.unusedVariables false

set_option maxRecDepth 100000 in
theorem lifted (os : Os) (started : os.Started) (H : Type) (enc : TypeId × Value → H) :
    ReturnsInHanded {} Try.checked os 15 .any (Rows.fnExactPremiumGainSpec.pre6 enc Try.prog Try.f15 Rows.fnExactPremiumGainRow.domain false) (Rows.fnExactPremiumGainSpec.post enc Try.prog Try.f15 false true false false) := by
  refine returnsInHanded_of_change (C := Try.checked) own_ started (by kernel_rfl) Try.func15
    (ChangeSpec.witness6 (enc := enc) (C := Try.checked) false ⟨#[], #[.agg #[.int .i64 0, .slice none 0 0, .int .i64 0], .agg #[.int .i64 0, .int .i64 0, .int .i64 0, .int .i64 0, .int .i64 0]], []⟩ 8 (by kernel_rfl) (by kernel_rfl) (by kernel_rfl) (by kernel_rfl)) ?_
  intro W base args ds gs before hval0 hW hcnd _
  have hval : ∀ (j : Nat) t v, Try.f15.params[j]? = some t → args[j]? = some v → Value.okWide Try.prog W .any base t v := hval0
  have hW' := hW
  obtain ⟨p, q, hA0, hV, rfl, hfz, hnd⟩ := hW
  have hA : DataW.TrodAll enc Try.prog W 0 (fun _ => true) true Try.f15.params.toList args.toList ds p := hA0
  rw [Try.params15] at hA hval
  obtain ⟨v0, vs0, d0, ds0, p0, q0, hargs, rfl, rfl, h0, r0⟩ := trodAll_cons hA
  obtain ⟨v1, vs1, d1, ds1, p1, q1, rfl, rfl, rfl, h1, r1⟩ := trodAll_cons r0
  obtain ⟨rfl, rfl, rfl⟩ := trodAll_nil r1
  obtain rfl : args = #[v0, v1] := by cases args; simp_all
  obtain ⟨rfl, rfl⟩ := trodVars_none hV
  have k0 := h0
  have lt0 : ∀ x ∈ p0, x.block < W.heap.size := by obtain ⟨m, hm⟩ := k0; exact DataW.trod_lt m _ _ _ hm
  obtain ⟨first0, A0, n0, c0, f0, q0, rfl, hn0, hc0, hI0⟩ := open_Basis (hval 0 36 v0 rfl rfl) h0
  have k1 := h1
  have lt1 : ∀ x ∈ p1, x.block < W.heap.size := by obtain ⟨m, hm⟩ := k1; exact DataW.trod_lt m _ _ _ hm
  obtain ⟨b0, b1, b2, b3, b4, rfl⟩ := open_Policy (hval 1 38 v1 rfl rfl) h1
  clear hA0 hval0
  refine (l_PremiumGain ⟨first0, n0, f0⟩ q0 A0 c0 hn0 hc0 b0 b1 b2 b3 b4 0 W hI0 _ _ _ (Lib.hid fun v w h => s_PremiumGain ⟨first0, n0, f0⟩ q0 b0 b1 b2 b3 b4 v w h) (Lib.hid fun v w h => i_PremiumGain ⟨first0, n0, f0⟩ q0 b0 b1 b2 b3 b4 v w h)).mono fun e W' ⟨he, bel⟩ => ?_
  subst he
  exact ⟨_, rfl, _, _, _, [], _, [], hW', trodAll_mk1 (shut_bool Try.underlying4 _), (trodAll_cons_mk (Below.trod laidOut_ (by kernel_rfl) (of_decide_eq_true (by kernel_rfl)) k0 bel lt0) (trodAll_cons_mk (Below.trod laidOut_ (by kernel_rfl) (of_decide_eq_true (by kernel_rfl)) k1 bel lt1) trodAll_mk0)), rfl, Below.frame bel _, fun h => by cases h⟩

theorem facts : joinedFacts Try.pinned.checked.prog 15 Try.f15 Rows.fnExactPremiumGainSpec Rows.fnExactPremiumGainRow = true := by
  refine facts_mk (cl := [15, 41, 30, 101, 43, 32, 71, 44, 64, 42, 117, 173, 118, 165, 120, 119, 179, 201, 109, 156, 172, 149, 108, 171, 135, 189, 204, 147, 193, 107, 163, 150, 65, 45, 121, 167, 132, 123, 169, 122, 180, 124, 181, 182, 159, 184, 158, 125, 151, 190, 203, 164, 197, 198, 205, 206, 46, 34, 73]) ?_ ?_ ?_ ?_ ?_ ?_ ?_ ?_ ?_ ?_ ?_ ?_ ?_ ?_ ?_ ?_ ?_ ?_ ?_ ?_ ?_ ?_ ?_ ?_ ?_ ?_ ?_
  all_goals as_aux_lemma => kernel_rfl
theorem over : Rows.fnExactPremiumGainRow.holds Try.pinned (OpenSpec.ofChange Rows.fnExactPremiumGainSpec) :=
  OpenClaim.holds_of_wide 15 Try.f15 rfl rfl rfl rfl rfl rfl rfl ⟨rfl, rfl, rfl, rfl, rfl⟩ rfl rfl rfl rfl rfl (by kernel_rfl) Try.func15 facts
    (of_decide_eq_true (by kernel_rfl)) (by unfold Func.isWrapper; first | (rw [if_pos (by decide +kernel)]; kernel_rfl) | (rw [if_neg (by decide +kernel)]; exact ⟨rfl, rfl⟩))
    (fun os started H enc _ => lifted os started H enc)

theorem proved : Rows.FnExactPremiumGainSaid := over
end Go.Proofs.Ytfelomijaimloaa.rowPremiumGain
