/- The law FnExactAgePortfolio: for all arguments the call returns true, and the arguments read as before. No condition. -/
import Derived.Test.YtdeoampkbbbleaaOpen
import Derived.Test.YtdeoampkbbbleaaOpenP
import Derived.Test.YtdeoampkbbbleaaOpenH
import Derived.Test.YtdeoampkbbbleaaAgeW
import Derived.Test.YtdeoampkbbbleaaGraph
namespace Go.Proofs.Ytdeoampkbbbleaa.rowAgePortfolio
open Go.ChangeShapes Go.WideShapes Go.ChangeAt Go.RowKit Pu
set_option linter.unusedVariables false

set_option maxRecDepth 100000 in
theorem lifted (os : Os) (started : os.Started) (H : Type) (enc : TypeId × Value → H) :
    ReturnsInHanded {} Try.checked os 5 .any (Rows.fnExactAgePortfolioSpec.pre6 enc Try.prog Try.f5 Rows.fnExactAgePortfolioRow.domain false) (Rows.fnExactAgePortfolioSpec.post enc Try.prog Try.f5 false true false false) := by
  refine returnsInHanded_of_change (C := Try.checked) own_ started (by kernel_rfl) Try.func5
    (ChangeSpec.witness6 (enc := enc) (C := Try.checked) false ⟨#[], #[.agg #[.int .i64 0, .slice none 0 0, .int .i64 0], .slice none 0 0, .slice none 0 0], []⟩ 8 (by kernel_rfl) (by kernel_rfl) (by kernel_rfl) (by kernel_rfl)) ?_
  intro W base args ds gs before hval0 hW hcnd _
  have hval : ∀ (j : Nat) t v, Try.f5.params[j]? = some t → args[j]? = some v → Value.okWide Try.prog W .any base t v := hval0
  have hW' := hW
  obtain ⟨p, q, hA0, hV, rfl, hfz, hnd⟩ := hW
  have hA : DataW.TrodAll enc Try.prog W 0 (fun _ => true) true Try.f5.params.toList args.toList ds p := hA0
  rw [Try.params5] at hA hval
  obtain ⟨v0, vs0, d0, ds0, p0, q0, hargs, rfl, rfl, h0, r0⟩ := trodAll_cons hA
  obtain ⟨v1, vs1, d1, ds1, p1, q1, rfl, rfl, rfl, h1, r1⟩ := trodAll_cons r0
  obtain ⟨v2, vs2, d2, ds2, p2, q2, rfl, rfl, rfl, h2, r2⟩ := trodAll_cons r1
  obtain ⟨rfl, rfl, rfl⟩ := trodAll_nil r2
  obtain rfl : args = #[v0, v1, v2] := by cases args; simp_all
  obtain ⟨rfl, rfl⟩ := trodVars_none hV
  have k0 := h0
  have lt0 : ∀ x ∈ p0, x.block < W.heap.size := by obtain ⟨m, hm⟩ := k0; exact DataW.trod_lt m _ _ _ hm
  obtain ⟨first0, A0, n0, c0, f0, q0, rfl, hn0, hc0, hI0⟩ := open_Basis (hval 0 26 v0 rfl rfl) h0
  have k1 := h1
  have lt1 : ∀ x ∈ p1, x.block < W.heap.size := by obtain ⟨m, hm⟩ := k1; exact DataW.trod_lt m _ _ _ hm
  obtain ⟨A1, n1, c1, f1, rfl, hI1⟩ := open_Holdings (hval 1 27 v1 rfl rfl) h1
  have k2 := h2
  have lt2 : ∀ x ∈ p2, x.block < W.heap.size := by obtain ⟨m, hm⟩ := k2; exact DataW.trod_lt m _ _ _ hm
  obtain ⟨A2, n2, c2, f2, rfl, hI2⟩ := open_Ints (hval 2 22 v2 rfl rfl) h2
  clear hA0 hval0
  refine (l_AgePortfolio ⟨first0, n0, f0⟩ q0 A0 c0 hn0 hc0 A1 n1 c1 f1 hI1.1 hI1.2.1 A2 n2 c2 f2 hI2.1 hI2.2.1 W hI0 hI1.2.2 hI2.2.2 (ageN ⟨first0, n0, f0⟩ q0 n1 f1 n2 f2) (ageG ⟨first0, n0, f0⟩ q0 n1 f1 n2 f2) (ageC ⟨first0, n0, f0⟩ q0 n1 f1 n2 f2) (ageN_le _ _ _ _ _ _) (Lib.hid fun hb hm v vl vd w h k l => s_AgePortfolio ⟨first0, n0, f0⟩ q0 n1 f1 n2 f2 hb hm v vl vd w h k l) (Lib.hid fun hb hm v vl vd w h k l => i_AgePortfolio ⟨first0, n0, f0⟩ q0 n1 f1 n2 f2 hb hm v vl vd w h k l)).mono fun e W' ⟨he, bel⟩ => ?_
  subst he
  exact ⟨_, rfl, _, _, _, [], _, [], hW', trodAll_mk1 (shut_bool Try.underlying4 _), (trodAll_cons_mk (Below.trod laidOut_ (by kernel_rfl) (of_decide_eq_true (by kernel_rfl)) k0 bel lt0) (trodAll_cons_mk (Below.trod laidOut_ (by kernel_rfl) (of_decide_eq_true (by kernel_rfl)) k1 bel lt1) (trodAll_cons_mk (Below.trod laidOut_ (by kernel_rfl) (of_decide_eq_true (by kernel_rfl)) k2 bel lt2) trodAll_mk0))), rfl, Below.frame bel _, fun h => by cases h⟩

theorem facts : joinedFacts Try.pinned.checked.prog 5 Try.f5 Rows.fnExactAgePortfolioSpec Rows.fnExactAgePortfolioRow = true := by
  refine facts_mk (cl := [5, 18, 140, 242, 19, 21, 143, 29, 22, 144, 243, 28, 20, 141, 211, 98, 221, 142, 222, 236, 235, 226, 198, 152, 157, 247, 219, 179, 150, 30, 153, 23, 97, 74, 194, 186, 165, 146, 147, 245, 96, 220, 262, 197, 258, 259, 161, 248, 160, 209, 154, 249, 263, 145, 244, 155, 25, 149, 246, 24, 148, 31, 32, 156, 34, 33, 35]) ?_ ?_ ?_ ?_ ?_ ?_ ?_ ?_ ?_ ?_ ?_ ?_ ?_ ?_ ?_ ?_ ?_ ?_ ?_ ?_ ?_ ?_ ?_ ?_ ?_ ?_ ?_
  all_goals as_aux_lemma => kernel_rfl
theorem over : Rows.fnExactAgePortfolioRow.holds Try.pinned (OpenSpec.ofChange Rows.fnExactAgePortfolioSpec) :=
  OpenClaim.holds_of_wide 5 Try.f5 rfl rfl rfl rfl rfl rfl rfl ⟨rfl, rfl, rfl, rfl, rfl⟩ rfl rfl rfl rfl rfl (by kernel_rfl) Try.func5 facts
    (of_decide_eq_true (by kernel_rfl)) (by unfold Func.isWrapper; first | (rw [if_pos (by decide +kernel)]; kernel_rfl) | (rw [if_neg (by decide +kernel)]; exact ⟨rfl, rfl⟩))
    (fun os started H enc _ => lifted os started H enc)

theorem proved : Rows.FnExactAgePortfolioSaid := over
end Go.Proofs.Ytdeoampkbbbleaa.rowAgePortfolio
