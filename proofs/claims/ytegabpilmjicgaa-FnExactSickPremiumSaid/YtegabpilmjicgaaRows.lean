/-
  No cell of these rows narrows 'for every input' (looked for: loops, veiled, ifaces, maps, wideKeys, modest, calm, conditions, laid).
  DERIVED. THE GIVEN ROWS OF THIS SEAT. 22 by the template 'for every input the law returns true; each argument reads behind the call as it read before'; 0 by the template 'total and deterministic' (their statements: YtegabpilmjicgaaTotals.lean).
  GIVEN WITH THE SEED: the statements are not yours to turn. If you find one false, say at which input.
  Laid BY PROGRAM, IN A SANDBOX (cutbox-rows.mjs): the forced cells as the released guide's own fill.sh prints them over the translation 55fb811a112dd485… (all of the seat's roots in one cut). By AI agents, Wed Nov 11 2026. No macro, syntax, notation, axiom, sorry.
-/
import Derived.Test.YtegabpilmjicgaaChecked
import GoSem.Claim
import GoSem.ClaimJoined
import GoSem.ClaimMapViews
import Derived.JoinedTies
import Derived.KernelRfl
namespace Go.Proofs.Ytegabpilmjicgaa
/- THE CELL 'sum', in the pinned program and in every row, IS THE sha256 OF THE DUMP (.gsa) THAT YtegabpilmjicgaaProg.lean LOADS. Nothing in Lean hashes anything: it is a label: what it is worth is what the hold of that sum in a sandbox is worth. -/
noncomputable def Try.pinned : Pinned := { name := "ytegabpilmjicgaa", sum := "55fb811a112dd4859eb11e4f0124d20292490e36e71663746f74ccba1fb712fd", checked := Try.checked }
namespace Rows
def none {H : Type} : Left H := { results := [], args := [] }

/-- 'laws.FnExactColumnC': WHATEVER THE INPUT: true; the input reads as it did. -/
def fnExactColumnCSpec : ChangeSpec := { name := "fnExactColumnC", fn := fun _ => fun
  | [d1, d2] => { results := [.lit (.bool true)], args := [d1, d2] }
  | _ => none }
def fnExactColumnCRow : OpenClaim := { program := "ytegabpilmjicgaa", sum := "55fb811a112dd4859eb11e4f0124d20292490e36e71663746f74ccba1fb712fd", func := "loop.example/g01025/laws.FnExactColumnC", spec := "fnExactColumnC", unfollowed := true, recurses := true, apart := false }
def FnExactColumnCSaid : Prop := fnExactColumnCRow.holds Try.pinned (OpenSpec.ofChange fnExactColumnCSpec)

/-- ITS FALSE NEIGHBOUR: 'it returns false'. Refute it at one input. -/
def fnExactColumnCWrong : ChangeSpec := { name := "fnExactColumnC", fn := fun _ => fun
  | [d1, d2] => { results := [.lit (.bool false)], args := [d1, d2] }
  | _ => none }
def FnExactColumnCWrongFalsely : Prop := fnExactColumnCRow.holds Try.pinned (OpenSpec.ofChange fnExactColumnCWrong)

/-- 'laws.FnExactColumnD': WHATEVER THE INPUT: true; the input reads as it did. -/
def fnExactColumnDSpec : ChangeSpec := { name := "fnExactColumnD", fn := fun _ => fun
  | [d1, d2] => { results := [.lit (.bool true)], args := [d1, d2] }
  | _ => none }
def fnExactColumnDRow : OpenClaim := { program := "ytegabpilmjicgaa", sum := "55fb811a112dd4859eb11e4f0124d20292490e36e71663746f74ccba1fb712fd", func := "loop.example/g01025/laws.FnExactColumnD", spec := "fnExactColumnD", unfollowed := true, recurses := true, apart := false }
def FnExactColumnDSaid : Prop := fnExactColumnDRow.holds Try.pinned (OpenSpec.ofChange fnExactColumnDSpec)

/-- ITS FALSE NEIGHBOUR: 'it returns false'. Refute it at one input. -/
def fnExactColumnDWrong : ChangeSpec := { name := "fnExactColumnD", fn := fun _ => fun
  | [d1, d2] => { results := [.lit (.bool false)], args := [d1, d2] }
  | _ => none }
def FnExactColumnDWrongFalsely : Prop := fnExactColumnDRow.holds Try.pinned (OpenSpec.ofChange fnExactColumnDWrong)

/-- 'laws.FnExactColumnM': WHATEVER THE INPUT: true; the input reads as it did. -/
def fnExactColumnMSpec : ChangeSpec := { name := "fnExactColumnM", fn := fun _ => fun
  | [d1, d2] => { results := [.lit (.bool true)], args := [d1, d2] }
  | _ => none }
def fnExactColumnMRow : OpenClaim := { program := "ytegabpilmjicgaa", sum := "55fb811a112dd4859eb11e4f0124d20292490e36e71663746f74ccba1fb712fd", func := "loop.example/g01025/laws.FnExactColumnM", spec := "fnExactColumnM", unfollowed := true, recurses := true, apart := false }
def FnExactColumnMSaid : Prop := fnExactColumnMRow.holds Try.pinned (OpenSpec.ofChange fnExactColumnMSpec)

/-- ITS FALSE NEIGHBOUR: 'it returns false'. Refute it at one input. -/
def fnExactColumnMWrong : ChangeSpec := { name := "fnExactColumnM", fn := fun _ => fun
  | [d1, d2] => { results := [.lit (.bool false)], args := [d1, d2] }
  | _ => none }
def FnExactColumnMWrongFalsely : Prop := fnExactColumnMRow.holds Try.pinned (OpenSpec.ofChange fnExactColumnMWrong)

/-- 'laws.FnExactColumnN': WHATEVER THE INPUT: true; the input reads as it did. -/
def fnExactColumnNSpec : ChangeSpec := { name := "fnExactColumnN", fn := fun _ => fun
  | [d1, d2] => { results := [.lit (.bool true)], args := [d1, d2] }
  | _ => none }
def fnExactColumnNRow : OpenClaim := { program := "ytegabpilmjicgaa", sum := "55fb811a112dd4859eb11e4f0124d20292490e36e71663746f74ccba1fb712fd", func := "loop.example/g01025/laws.FnExactColumnN", spec := "fnExactColumnN", unfollowed := true, recurses := true, apart := false }
def FnExactColumnNSaid : Prop := fnExactColumnNRow.holds Try.pinned (OpenSpec.ofChange fnExactColumnNSpec)

/-- ITS FALSE NEIGHBOUR: 'it returns false'. Refute it at one input. -/
def fnExactColumnNWrong : ChangeSpec := { name := "fnExactColumnN", fn := fun _ => fun
  | [d1, d2] => { results := [.lit (.bool false)], args := [d1, d2] }
  | _ => none }
def FnExactColumnNWrongFalsely : Prop := fnExactColumnNRow.holds Try.pinned (OpenSpec.ofChange fnExactColumnNWrong)

/-- 'laws.FnExactAssuranceNumber': WHATEVER THE INPUT: true; the input reads as it did. -/
def fnExactAssuranceNumberSpec : ChangeSpec := { name := "fnExactAssuranceNumber", fn := fun _ => fun
  | [d1, d2, d3, d4, d5] => { results := [.lit (.bool true)], args := [d1, d2, d3, d4, d5] }
  | _ => none }
def fnExactAssuranceNumberRow : OpenClaim := { program := "ytegabpilmjicgaa", sum := "55fb811a112dd4859eb11e4f0124d20292490e36e71663746f74ccba1fb712fd", func := "loop.example/g01025/laws.FnExactAssuranceNumber", spec := "fnExactAssuranceNumber", apart := false }
def FnExactAssuranceNumberSaid : Prop := fnExactAssuranceNumberRow.holds Try.pinned (OpenSpec.ofChange fnExactAssuranceNumberSpec)

/-- ITS FALSE NEIGHBOUR: 'it returns false'. Refute it at one input. -/
def fnExactAssuranceNumberWrong : ChangeSpec := { name := "fnExactAssuranceNumber", fn := fun _ => fun
  | [d1, d2, d3, d4, d5] => { results := [.lit (.bool false)], args := [d1, d2, d3, d4, d5] }
  | _ => none }
def FnExactAssuranceNumberWrongFalsely : Prop := fnExactAssuranceNumberRow.holds Try.pinned (OpenSpec.ofChange fnExactAssuranceNumberWrong)

/-- 'laws.FnExactAmountFor': WHATEVER THE INPUT: true; the input reads as it did. -/
def fnExactAmountForSpec : ChangeSpec := { name := "fnExactAmountFor", fn := fun _ => fun
  | [d1, d2, d3, d4] => { results := [.lit (.bool true)], args := [d1, d2, d3, d4] }
  | _ => none }
def fnExactAmountForRow : OpenClaim := { program := "ytegabpilmjicgaa", sum := "55fb811a112dd4859eb11e4f0124d20292490e36e71663746f74ccba1fb712fd", func := "loop.example/g01025/laws.FnExactAmountFor", spec := "fnExactAmountFor", named := ["math/bits.divideError", "math/bits.overflowError"], apart := false }
def FnExactAmountForSaid : Prop := fnExactAmountForRow.holds Try.pinned (OpenSpec.ofChange fnExactAmountForSpec)

/-- ITS FALSE NEIGHBOUR: 'it returns false'. Refute it at one input. -/
def fnExactAmountForWrong : ChangeSpec := { name := "fnExactAmountFor", fn := fun _ => fun
  | [d1, d2, d3, d4] => { results := [.lit (.bool false)], args := [d1, d2, d3, d4] }
  | _ => none }
def FnExactAmountForWrongFalsely : Prop := fnExactAmountForRow.holds Try.pinned (OpenSpec.ofChange fnExactAmountForWrong)

/-- 'laws.FnExactTermAnnuity': WHATEVER THE INPUT: true; the input reads as it did. -/
def fnExactTermAnnuitySpec : ChangeSpec := { name := "fnExactTermAnnuity", fn := fun _ => fun
  | [d1, d2, d3, d4, d5] => { results := [.lit (.bool true)], args := [d1, d2, d3, d4, d5] }
  | _ => none }
def fnExactTermAnnuityRow : OpenClaim := { program := "ytegabpilmjicgaa", sum := "55fb811a112dd4859eb11e4f0124d20292490e36e71663746f74ccba1fb712fd", func := "loop.example/g01025/laws.FnExactTermAnnuity", spec := "fnExactTermAnnuity", named := ["math/bits.divideError", "math/bits.overflowError"], apart := false }
def FnExactTermAnnuitySaid : Prop := fnExactTermAnnuityRow.holds Try.pinned (OpenSpec.ofChange fnExactTermAnnuitySpec)

/-- ITS FALSE NEIGHBOUR: 'it returns false'. Refute it at one input. -/
def fnExactTermAnnuityWrong : ChangeSpec := { name := "fnExactTermAnnuity", fn := fun _ => fun
  | [d1, d2, d3, d4, d5] => { results := [.lit (.bool false)], args := [d1, d2, d3, d4, d5] }
  | _ => none }
def FnExactTermAnnuityWrongFalsely : Prop := fnExactTermAnnuityRow.holds Try.pinned (OpenSpec.ofChange fnExactTermAnnuityWrong)

/-- 'laws.FnExactLateAnnuity': WHATEVER THE INPUT: true; the input reads as it did. -/
def fnExactLateAnnuitySpec : ChangeSpec := { name := "fnExactLateAnnuity", fn := fun _ => fun
  | [d1, d2, d3, d4, d5] => { results := [.lit (.bool true)], args := [d1, d2, d3, d4, d5] }
  | _ => none }
def fnExactLateAnnuityRow : OpenClaim := { program := "ytegabpilmjicgaa", sum := "55fb811a112dd4859eb11e4f0124d20292490e36e71663746f74ccba1fb712fd", func := "loop.example/g01025/laws.FnExactLateAnnuity", spec := "fnExactLateAnnuity", named := ["math/bits.divideError", "math/bits.overflowError"], apart := false }
def FnExactLateAnnuitySaid : Prop := fnExactLateAnnuityRow.holds Try.pinned (OpenSpec.ofChange fnExactLateAnnuitySpec)

/-- ITS FALSE NEIGHBOUR: 'it returns false'. Refute it at one input. -/
def fnExactLateAnnuityWrong : ChangeSpec := { name := "fnExactLateAnnuity", fn := fun _ => fun
  | [d1, d2, d3, d4, d5] => { results := [.lit (.bool false)], args := [d1, d2, d3, d4, d5] }
  | _ => none }
def FnExactLateAnnuityWrongFalsely : Prop := fnExactLateAnnuityRow.holds Try.pinned (OpenSpec.ofChange fnExactLateAnnuityWrong)

/-- 'laws.FnExactLifeAnnuity': WHATEVER THE INPUT: true; the input reads as it did. -/
def fnExactLifeAnnuitySpec : ChangeSpec := { name := "fnExactLifeAnnuity", fn := fun _ => fun
  | [d1, d2, d3, d4] => { results := [.lit (.bool true)], args := [d1, d2, d3, d4] }
  | _ => none }
def fnExactLifeAnnuityRow : OpenClaim := { program := "ytegabpilmjicgaa", sum := "55fb811a112dd4859eb11e4f0124d20292490e36e71663746f74ccba1fb712fd", func := "loop.example/g01025/laws.FnExactLifeAnnuity", spec := "fnExactLifeAnnuity", named := ["math/bits.divideError", "math/bits.overflowError"], apart := false }
def FnExactLifeAnnuitySaid : Prop := fnExactLifeAnnuityRow.holds Try.pinned (OpenSpec.ofChange fnExactLifeAnnuitySpec)

/-- ITS FALSE NEIGHBOUR: 'it returns false'. Refute it at one input. -/
def fnExactLifeAnnuityWrong : ChangeSpec := { name := "fnExactLifeAnnuity", fn := fun _ => fun
  | [d1, d2, d3, d4] => { results := [.lit (.bool false)], args := [d1, d2, d3, d4] }
  | _ => none }
def FnExactLifeAnnuityWrongFalsely : Prop := fnExactLifeAnnuityRow.holds Try.pinned (OpenSpec.ofChange fnExactLifeAnnuityWrong)

/-- 'laws.FnExactAnnuityPrices': WHATEVER THE INPUT: true; the input reads as it did. -/
def fnExactAnnuityPricesSpec : ChangeSpec := { name := "fnExactAnnuityPrices", fn := fun _ => fun
  | [d1, d2, d3] => { results := [.lit (.bool true)], args := [d1, d2, d3] }
  | _ => none }
def fnExactAnnuityPricesRow : OpenClaim := { program := "ytegabpilmjicgaa", sum := "55fb811a112dd4859eb11e4f0124d20292490e36e71663746f74ccba1fb712fd", func := "loop.example/g01025/laws.FnExactAnnuityPrices", spec := "fnExactAnnuityPrices", named := ["math/bits.divideError", "math/bits.overflowError"], apart := false }
def FnExactAnnuityPricesSaid : Prop := fnExactAnnuityPricesRow.holds Try.pinned (OpenSpec.ofChange fnExactAnnuityPricesSpec)

/-- ITS FALSE NEIGHBOUR: 'it returns false'. Refute it at one input. -/
def fnExactAnnuityPricesWrong : ChangeSpec := { name := "fnExactAnnuityPrices", fn := fun _ => fun
  | [d1, d2, d3] => { results := [.lit (.bool false)], args := [d1, d2, d3] }
  | _ => none }
def FnExactAnnuityPricesWrongFalsely : Prop := fnExactAnnuityPricesRow.holds Try.pinned (OpenSpec.ofChange fnExactAnnuityPricesWrong)

/-- 'laws.FnExactSureAnnuity': WHATEVER THE INPUT: true; the input reads as it did. -/
def fnExactSureAnnuitySpec : ChangeSpec := { name := "fnExactSureAnnuity", fn := fun _ => fun
  | [d1, d2, d3, d4, d5] => { results := [.lit (.bool true)], args := [d1, d2, d3, d4, d5] }
  | _ => none }
def fnExactSureAnnuityRow : OpenClaim := { program := "ytegabpilmjicgaa", sum := "55fb811a112dd4859eb11e4f0124d20292490e36e71663746f74ccba1fb712fd", func := "loop.example/g01025/laws.FnExactSureAnnuity", spec := "fnExactSureAnnuity", named := ["math/bits.divideError", "math/bits.overflowError"], apart := false }
def FnExactSureAnnuitySaid : Prop := fnExactSureAnnuityRow.holds Try.pinned (OpenSpec.ofChange fnExactSureAnnuitySpec)

/-- ITS FALSE NEIGHBOUR: 'it returns false'. Refute it at one input. -/
def fnExactSureAnnuityWrong : ChangeSpec := { name := "fnExactSureAnnuity", fn := fun _ => fun
  | [d1, d2, d3, d4, d5] => { results := [.lit (.bool false)], args := [d1, d2, d3, d4, d5] }
  | _ => none }
def FnExactSureAnnuityWrongFalsely : Prop := fnExactSureAnnuityRow.holds Try.pinned (OpenSpec.ofChange fnExactSureAnnuityWrong)

/-- 'laws.FnExactSumFor': WHATEVER THE INPUT: true; the input reads as it did. -/
def fnExactSumForSpec : ChangeSpec := { name := "fnExactSumFor", fn := fun _ => fun
  | [d1, d2, d3, d4, d5, d6] => { results := [.lit (.bool true)], args := [d1, d2, d3, d4, d5, d6] }
  | _ => none }
def fnExactSumForRow : OpenClaim := { program := "ytegabpilmjicgaa", sum := "55fb811a112dd4859eb11e4f0124d20292490e36e71663746f74ccba1fb712fd", func := "loop.example/g01025/laws.FnExactSumFor", spec := "fnExactSumFor", named := ["math/bits.divideError", "math/bits.overflowError"], apart := false }
def FnExactSumForSaid : Prop := fnExactSumForRow.holds Try.pinned (OpenSpec.ofChange fnExactSumForSpec)

/-- ITS FALSE NEIGHBOUR: 'it returns false'. Refute it at one input. -/
def fnExactSumForWrong : ChangeSpec := { name := "fnExactSumFor", fn := fun _ => fun
  | [d1, d2, d3, d4, d5, d6] => { results := [.lit (.bool false)], args := [d1, d2, d3, d4, d5, d6] }
  | _ => none }
def FnExactSumForWrongFalsely : Prop := fnExactSumForRow.holds Try.pinned (OpenSpec.ofChange fnExactSumForWrong)

/-- 'laws.FnExactAssurancePrice': WHATEVER THE INPUT: true; the input reads as it did. -/
def fnExactAssurancePriceSpec : ChangeSpec := { name := "fnExactAssurancePrice", fn := fun _ => fun
  | [d1, d2, d3, d4, d5, d6] => { results := [.lit (.bool true)], args := [d1, d2, d3, d4, d5, d6] }
  | _ => none }
def fnExactAssurancePriceRow : OpenClaim := { program := "ytegabpilmjicgaa", sum := "55fb811a112dd4859eb11e4f0124d20292490e36e71663746f74ccba1fb712fd", func := "loop.example/g01025/laws.FnExactAssurancePrice", spec := "fnExactAssurancePrice", named := ["math/bits.divideError", "math/bits.overflowError"], apart := false }
def FnExactAssurancePriceSaid : Prop := fnExactAssurancePriceRow.holds Try.pinned (OpenSpec.ofChange fnExactAssurancePriceSpec)

/-- ITS FALSE NEIGHBOUR: 'it returns false'. Refute it at one input. -/
def fnExactAssurancePriceWrong : ChangeSpec := { name := "fnExactAssurancePrice", fn := fun _ => fun
  | [d1, d2, d3, d4, d5, d6] => { results := [.lit (.bool false)], args := [d1, d2, d3, d4, d5, d6] }
  | _ => none }
def FnExactAssurancePriceWrongFalsely : Prop := fnExactAssurancePriceRow.holds Try.pinned (OpenSpec.ofChange fnExactAssurancePriceWrong)

/-- 'laws.FnExactJointAnnuity': WHATEVER THE INPUT: true; the input reads as it did. -/
def fnExactJointAnnuitySpec : ChangeSpec := { name := "fnExactJointAnnuity", fn := fun _ => fun
  | [d1, d2, d3, d4, d5, d6] => { results := [.lit (.bool true)], args := [d1, d2, d3, d4, d5, d6] }
  | _ => none }
def fnExactJointAnnuityRow : OpenClaim := { program := "ytegabpilmjicgaa", sum := "55fb811a112dd4859eb11e4f0124d20292490e36e71663746f74ccba1fb712fd", func := "loop.example/g01025/laws.FnExactJointAnnuity", spec := "fnExactJointAnnuity", named := ["math/bits.divideError", "math/bits.overflowError"], apart := false }
def FnExactJointAnnuitySaid : Prop := fnExactJointAnnuityRow.holds Try.pinned (OpenSpec.ofChange fnExactJointAnnuitySpec)

/-- ITS FALSE NEIGHBOUR: 'it returns false'. Refute it at one input. -/
def fnExactJointAnnuityWrong : ChangeSpec := { name := "fnExactJointAnnuity", fn := fun _ => fun
  | [d1, d2, d3, d4, d5, d6] => { results := [.lit (.bool false)], args := [d1, d2, d3, d4, d5, d6] }
  | _ => none }
def FnExactJointAnnuityWrongFalsely : Prop := fnExactJointAnnuityRow.holds Try.pinned (OpenSpec.ofChange fnExactJointAnnuityWrong)

/-- 'laws.FnExactWidowAnnuity': WHATEVER THE INPUT: true; the input reads as it did. -/
def fnExactWidowAnnuitySpec : ChangeSpec := { name := "fnExactWidowAnnuity", fn := fun _ => fun
  | [d1, d2, d3, d4, d5, d6] => { results := [.lit (.bool true)], args := [d1, d2, d3, d4, d5, d6] }
  | _ => none }
def fnExactWidowAnnuityRow : OpenClaim := { program := "ytegabpilmjicgaa", sum := "55fb811a112dd4859eb11e4f0124d20292490e36e71663746f74ccba1fb712fd", func := "loop.example/g01025/laws.FnExactWidowAnnuity", spec := "fnExactWidowAnnuity", named := ["math/bits.divideError", "math/bits.overflowError"], apart := false }
def FnExactWidowAnnuitySaid : Prop := fnExactWidowAnnuityRow.holds Try.pinned (OpenSpec.ofChange fnExactWidowAnnuitySpec)

/-- ITS FALSE NEIGHBOUR: 'it returns false'. Refute it at one input. -/
def fnExactWidowAnnuityWrong : ChangeSpec := { name := "fnExactWidowAnnuity", fn := fun _ => fun
  | [d1, d2, d3, d4, d5, d6] => { results := [.lit (.bool false)], args := [d1, d2, d3, d4, d5, d6] }
  | _ => none }
def FnExactWidowAnnuityWrongFalsely : Prop := fnExactWidowAnnuityRow.holds Try.pinned (OpenSpec.ofChange fnExactWidowAnnuityWrong)

/-- 'laws.FnExactTermPart': WHATEVER THE INPUT: true; the input reads as it did. -/
def fnExactTermPartSpec : ChangeSpec := { name := "fnExactTermPart", fn := fun _ => fun
  | [d1, d2, d3, d4, d5] => { results := [.lit (.bool true)], args := [d1, d2, d3, d4, d5] }
  | _ => none }
def fnExactTermPartRow : OpenClaim := { program := "ytegabpilmjicgaa", sum := "55fb811a112dd4859eb11e4f0124d20292490e36e71663746f74ccba1fb712fd", func := "loop.example/g01025/laws.FnExactTermPart", spec := "fnExactTermPart", named := ["math/bits.divideError", "math/bits.overflowError"], apart := false }
def FnExactTermPartSaid : Prop := fnExactTermPartRow.holds Try.pinned (OpenSpec.ofChange fnExactTermPartSpec)

/-- ITS FALSE NEIGHBOUR: 'it returns false'. Refute it at one input. -/
def fnExactTermPartWrong : ChangeSpec := { name := "fnExactTermPart", fn := fun _ => fun
  | [d1, d2, d3, d4, d5] => { results := [.lit (.bool false)], args := [d1, d2, d3, d4, d5] }
  | _ => none }
def FnExactTermPartWrongFalsely : Prop := fnExactTermPartRow.holds Try.pinned (OpenSpec.ofChange fnExactTermPartWrong)

/-- 'laws.FnExactNaturalPremiums': WHATEVER THE INPUT: true; the input reads as it did. -/
def fnExactNaturalPremiumsSpec : ChangeSpec := { name := "fnExactNaturalPremiums", fn := fun _ => fun
  | [d1, d2, d3, d4, d5] => { results := [.lit (.bool true)], args := [d1, d2, d3, d4, d5] }
  | _ => none }
def fnExactNaturalPremiumsRow : OpenClaim := { program := "ytegabpilmjicgaa", sum := "55fb811a112dd4859eb11e4f0124d20292490e36e71663746f74ccba1fb712fd", func := "loop.example/g01025/laws.FnExactNaturalPremiums", spec := "fnExactNaturalPremiums", named := ["math/bits.divideError", "math/bits.overflowError"], apart := false }
def FnExactNaturalPremiumsSaid : Prop := fnExactNaturalPremiumsRow.holds Try.pinned (OpenSpec.ofChange fnExactNaturalPremiumsSpec)

/-- ITS FALSE NEIGHBOUR: 'it returns false'. Refute it at one input. -/
def fnExactNaturalPremiumsWrong : ChangeSpec := { name := "fnExactNaturalPremiums", fn := fun _ => fun
  | [d1, d2, d3, d4, d5] => { results := [.lit (.bool false)], args := [d1, d2, d3, d4, d5] }
  | _ => none }
def FnExactNaturalPremiumsWrongFalsely : Prop := fnExactNaturalPremiumsRow.holds Try.pinned (OpenSpec.ofChange fnExactNaturalPremiumsWrong)

/-- 'laws.FnExactLevelPremium': WHATEVER THE INPUT: true; the input reads as it did. -/
def fnExactLevelPremiumSpec : ChangeSpec := { name := "fnExactLevelPremium", fn := fun _ => fun
  | [d1, d2, d3, d4, d5, d6] => { results := [.lit (.bool true)], args := [d1, d2, d3, d4, d5, d6] }
  | _ => none }
def fnExactLevelPremiumRow : OpenClaim := { program := "ytegabpilmjicgaa", sum := "55fb811a112dd4859eb11e4f0124d20292490e36e71663746f74ccba1fb712fd", func := "loop.example/g01025/laws.FnExactLevelPremium", spec := "fnExactLevelPremium", named := ["math/bits.divideError", "math/bits.overflowError"], apart := false }
def FnExactLevelPremiumSaid : Prop := fnExactLevelPremiumRow.holds Try.pinned (OpenSpec.ofChange fnExactLevelPremiumSpec)

/-- ITS FALSE NEIGHBOUR: 'it returns false'. Refute it at one input. -/
def fnExactLevelPremiumWrong : ChangeSpec := { name := "fnExactLevelPremium", fn := fun _ => fun
  | [d1, d2, d3, d4, d5, d6] => { results := [.lit (.bool false)], args := [d1, d2, d3, d4, d5, d6] }
  | _ => none }
def FnExactLevelPremiumWrongFalsely : Prop := fnExactLevelPremiumRow.holds Try.pinned (OpenSpec.ofChange fnExactLevelPremiumWrong)

/-- 'laws.FnExactLastAnnuity': WHATEVER THE INPUT: true; the input reads as it did. -/
def fnExactLastAnnuitySpec : ChangeSpec := { name := "fnExactLastAnnuity", fn := fun _ => fun
  | [d1, d2, d3, d4, d5, d6] => { results := [.lit (.bool true)], args := [d1, d2, d3, d4, d5, d6] }
  | _ => none }
def fnExactLastAnnuityRow : OpenClaim := { program := "ytegabpilmjicgaa", sum := "55fb811a112dd4859eb11e4f0124d20292490e36e71663746f74ccba1fb712fd", func := "loop.example/g01025/laws.FnExactLastAnnuity", spec := "fnExactLastAnnuity", named := ["math/bits.divideError", "math/bits.overflowError"], apart := false }
def FnExactLastAnnuitySaid : Prop := fnExactLastAnnuityRow.holds Try.pinned (OpenSpec.ofChange fnExactLastAnnuitySpec)

/-- ITS FALSE NEIGHBOUR: 'it returns false'. Refute it at one input. -/
def fnExactLastAnnuityWrong : ChangeSpec := { name := "fnExactLastAnnuity", fn := fun _ => fun
  | [d1, d2, d3, d4, d5, d6] => { results := [.lit (.bool false)], args := [d1, d2, d3, d4, d5, d6] }
  | _ => none }
def FnExactLastAnnuityWrongFalsely : Prop := fnExactLastAnnuityRow.holds Try.pinned (OpenSpec.ofChange fnExactLastAnnuityWrong)

/-- 'laws.FnExactSickValue': WHATEVER THE INPUT: true; the input reads as it did. -/
def fnExactSickValueSpec : ChangeSpec := { name := "fnExactSickValue", fn := fun _ => fun
  | [d1, d2, d3, d4, d5, d6] => { results := [.lit (.bool true)], args := [d1, d2, d3, d4, d5, d6] }
  | _ => none }
def fnExactSickValueRow : OpenClaim := { program := "ytegabpilmjicgaa", sum := "55fb811a112dd4859eb11e4f0124d20292490e36e71663746f74ccba1fb712fd", func := "loop.example/g01025/laws.FnExactSickValue", spec := "fnExactSickValue", unfollowed := true, recurses := true, named := ["math/bits.divideError", "math/bits.overflowError"], apart := false }
def FnExactSickValueSaid : Prop := fnExactSickValueRow.holds Try.pinned (OpenSpec.ofChange fnExactSickValueSpec)

/-- ITS FALSE NEIGHBOUR: 'it returns false'. Refute it at one input. -/
def fnExactSickValueWrong : ChangeSpec := { name := "fnExactSickValue", fn := fun _ => fun
  | [d1, d2, d3, d4, d5, d6] => { results := [.lit (.bool false)], args := [d1, d2, d3, d4, d5, d6] }
  | _ => none }
def FnExactSickValueWrongFalsely : Prop := fnExactSickValueRow.holds Try.pinned (OpenSpec.ofChange fnExactSickValueWrong)

/-- 'laws.FnExactSickPremium': WHATEVER THE INPUT: true; the input reads as it did. -/
def fnExactSickPremiumSpec : ChangeSpec := { name := "fnExactSickPremium", fn := fun _ => fun
  | [d1, d2, d3, d4, d5, d6] => { results := [.lit (.bool true)], args := [d1, d2, d3, d4, d5, d6] }
  | _ => none }
def fnExactSickPremiumRow : OpenClaim := { program := "ytegabpilmjicgaa", sum := "55fb811a112dd4859eb11e4f0124d20292490e36e71663746f74ccba1fb712fd", func := "loop.example/g01025/laws.FnExactSickPremium", spec := "fnExactSickPremium", unfollowed := true, recurses := true, named := ["math/bits.divideError", "math/bits.overflowError"], apart := false }
def FnExactSickPremiumSaid : Prop := fnExactSickPremiumRow.holds Try.pinned (OpenSpec.ofChange fnExactSickPremiumSpec)

/-- ITS FALSE NEIGHBOUR: 'it returns false'. Refute it at one input. -/
def fnExactSickPremiumWrong : ChangeSpec := { name := "fnExactSickPremium", fn := fun _ => fun
  | [d1, d2, d3, d4, d5, d6] => { results := [.lit (.bool false)], args := [d1, d2, d3, d4, d5, d6] }
  | _ => none }
def FnExactSickPremiumWrongFalsely : Prop := fnExactSickPremiumRow.holds Try.pinned (OpenSpec.ofChange fnExactSickPremiumWrong)

/-- 'laws.FnExactWidowYears': WHATEVER THE INPUT: true; the input reads as it did. -/
def fnExactWidowYearsSpec : ChangeSpec := { name := "fnExactWidowYears", fn := fun _ => fun
  | [d1, d2, d3, d4] => { results := [.lit (.bool true)], args := [d1, d2, d3, d4] }
  | _ => none }
def fnExactWidowYearsRow : OpenClaim := { program := "ytegabpilmjicgaa", sum := "55fb811a112dd4859eb11e4f0124d20292490e36e71663746f74ccba1fb712fd", func := "loop.example/g01025/laws.FnExactWidowYears", spec := "fnExactWidowYears", recurses := true, apart := false }
def FnExactWidowYearsSaid : Prop := fnExactWidowYearsRow.holds Try.pinned (OpenSpec.ofChange fnExactWidowYearsSpec)

/-- ITS FALSE NEIGHBOUR: 'it returns false'. Refute it at one input. -/
def fnExactWidowYearsWrong : ChangeSpec := { name := "fnExactWidowYears", fn := fun _ => fun
  | [d1, d2, d3, d4] => { results := [.lit (.bool false)], args := [d1, d2, d3, d4] }
  | _ => none }
def FnExactWidowYearsWrongFalsely : Prop := fnExactWidowYearsRow.holds Try.pinned (OpenSpec.ofChange fnExactWidowYearsWrong)

/- THE SECOND FORM. 'bulk': how many values and letters a reading holds, each counted each time it is reached (what is shared counts as often as it is met; a slice's spare places count too). A statement '..UptoSaid' is the law's where the arguments, and the package variables that the reading takes, are together of bulk at most 1048576: NARROWER than '..Said'. Prove '..Said' where nothing that the law and all that it calls make is longer than what came in: it says more and counts as full. Else prove '..UptoSaid'. A law counts once. -/
mutual
def uptoBulk {H : Type} : DataW H → Nat
  | .lit (.string bytes) => bytes.length + 1
  | .lit _ => 1
  | .nil => 1
  | .ptr d => uptoBulk d + 1
  | .slice elems spare => uptoBulkAll elems + uptoBulkAll spare + 1
  | .agg parts => uptoBulkAll parts + 1
  | .iface _ d => uptoBulk d + 1
  | .map entries => uptoBulkEntries entries + 1
  | .held _ => 1
def uptoBulkAll {H : Type} : List (DataW H) → Nat
  | [] => 0
  | d :: r => uptoBulk d + uptoBulkAll r
def uptoBulkEntries {H : Type} : List (Lit × DataW H) → Nat
  | [] => 0
  | x :: r => uptoBulkEntry x + uptoBulkEntries r
def uptoBulkEntry {H : Type} : Lit × DataW H → Nat
  | (.string bytes, d) => bytes.length + uptoBulk d + 1
  | (_, d) => uptoBulk d + 1
 end
def uptoSmall : (H : Type) → List (DataW H) → Bool := fun _ ds => decide (uptoBulkAll ds ≤ 1048576)
def OpenSpec.upto (s : _root_.Go.ChangeSpec) : _root_.Go.OpenSpec := { _root_.Go.OpenSpec.ofChange s with cond := some uptoSmall }

/-- 'laws.FnExactColumnC', WHERE WHAT IT READS IS OF BULK AT MOST 1048576: true; the input reads as it did. -/
def fnExactColumnCUptoRow : OpenClaim := { program := "ytegabpilmjicgaa", sum := "55fb811a112dd4859eb11e4f0124d20292490e36e71663746f74ccba1fb712fd", func := "loop.example/g01025/laws.FnExactColumnC", spec := "fnExactColumnC", unfollowed := true, recurses := true, apart := false, narrowed := true }
def FnExactColumnCUptoSaid : Prop := fnExactColumnCUptoRow.holds Try.pinned (OpenSpec.upto fnExactColumnCSpec)

/-- 'laws.FnExactColumnD', WHERE WHAT IT READS IS OF BULK AT MOST 1048576: true; the input reads as it did. -/
def fnExactColumnDUptoRow : OpenClaim := { program := "ytegabpilmjicgaa", sum := "55fb811a112dd4859eb11e4f0124d20292490e36e71663746f74ccba1fb712fd", func := "loop.example/g01025/laws.FnExactColumnD", spec := "fnExactColumnD", unfollowed := true, recurses := true, apart := false, narrowed := true }
def FnExactColumnDUptoSaid : Prop := fnExactColumnDUptoRow.holds Try.pinned (OpenSpec.upto fnExactColumnDSpec)

/-- 'laws.FnExactColumnM', WHERE WHAT IT READS IS OF BULK AT MOST 1048576: true; the input reads as it did. -/
def fnExactColumnMUptoRow : OpenClaim := { program := "ytegabpilmjicgaa", sum := "55fb811a112dd4859eb11e4f0124d20292490e36e71663746f74ccba1fb712fd", func := "loop.example/g01025/laws.FnExactColumnM", spec := "fnExactColumnM", unfollowed := true, recurses := true, apart := false, narrowed := true }
def FnExactColumnMUptoSaid : Prop := fnExactColumnMUptoRow.holds Try.pinned (OpenSpec.upto fnExactColumnMSpec)

/-- 'laws.FnExactColumnN', WHERE WHAT IT READS IS OF BULK AT MOST 1048576: true; the input reads as it did. -/
def fnExactColumnNUptoRow : OpenClaim := { program := "ytegabpilmjicgaa", sum := "55fb811a112dd4859eb11e4f0124d20292490e36e71663746f74ccba1fb712fd", func := "loop.example/g01025/laws.FnExactColumnN", spec := "fnExactColumnN", unfollowed := true, recurses := true, apart := false, narrowed := true }
def FnExactColumnNUptoSaid : Prop := fnExactColumnNUptoRow.holds Try.pinned (OpenSpec.upto fnExactColumnNSpec)

/-- 'laws.FnExactAssuranceNumber', WHERE WHAT IT READS IS OF BULK AT MOST 1048576: true; the input reads as it did. -/
def fnExactAssuranceNumberUptoRow : OpenClaim := { program := "ytegabpilmjicgaa", sum := "55fb811a112dd4859eb11e4f0124d20292490e36e71663746f74ccba1fb712fd", func := "loop.example/g01025/laws.FnExactAssuranceNumber", spec := "fnExactAssuranceNumber", apart := false, narrowed := true }
def FnExactAssuranceNumberUptoSaid : Prop := fnExactAssuranceNumberUptoRow.holds Try.pinned (OpenSpec.upto fnExactAssuranceNumberSpec)

/-- 'laws.FnExactAmountFor', WHERE WHAT IT READS IS OF BULK AT MOST 1048576: true; the input reads as it did. -/
def fnExactAmountForUptoRow : OpenClaim := { program := "ytegabpilmjicgaa", sum := "55fb811a112dd4859eb11e4f0124d20292490e36e71663746f74ccba1fb712fd", func := "loop.example/g01025/laws.FnExactAmountFor", spec := "fnExactAmountFor", named := ["math/bits.divideError", "math/bits.overflowError"], apart := false, narrowed := true }
def FnExactAmountForUptoSaid : Prop := fnExactAmountForUptoRow.holds Try.pinned (OpenSpec.upto fnExactAmountForSpec)

/-- 'laws.FnExactTermAnnuity', WHERE WHAT IT READS IS OF BULK AT MOST 1048576: true; the input reads as it did. -/
def fnExactTermAnnuityUptoRow : OpenClaim := { program := "ytegabpilmjicgaa", sum := "55fb811a112dd4859eb11e4f0124d20292490e36e71663746f74ccba1fb712fd", func := "loop.example/g01025/laws.FnExactTermAnnuity", spec := "fnExactTermAnnuity", named := ["math/bits.divideError", "math/bits.overflowError"], apart := false, narrowed := true }
def FnExactTermAnnuityUptoSaid : Prop := fnExactTermAnnuityUptoRow.holds Try.pinned (OpenSpec.upto fnExactTermAnnuitySpec)

/-- 'laws.FnExactLateAnnuity', WHERE WHAT IT READS IS OF BULK AT MOST 1048576: true; the input reads as it did. -/
def fnExactLateAnnuityUptoRow : OpenClaim := { program := "ytegabpilmjicgaa", sum := "55fb811a112dd4859eb11e4f0124d20292490e36e71663746f74ccba1fb712fd", func := "loop.example/g01025/laws.FnExactLateAnnuity", spec := "fnExactLateAnnuity", named := ["math/bits.divideError", "math/bits.overflowError"], apart := false, narrowed := true }
def FnExactLateAnnuityUptoSaid : Prop := fnExactLateAnnuityUptoRow.holds Try.pinned (OpenSpec.upto fnExactLateAnnuitySpec)

/-- 'laws.FnExactLifeAnnuity', WHERE WHAT IT READS IS OF BULK AT MOST 1048576: true; the input reads as it did. -/
def fnExactLifeAnnuityUptoRow : OpenClaim := { program := "ytegabpilmjicgaa", sum := "55fb811a112dd4859eb11e4f0124d20292490e36e71663746f74ccba1fb712fd", func := "loop.example/g01025/laws.FnExactLifeAnnuity", spec := "fnExactLifeAnnuity", named := ["math/bits.divideError", "math/bits.overflowError"], apart := false, narrowed := true }
def FnExactLifeAnnuityUptoSaid : Prop := fnExactLifeAnnuityUptoRow.holds Try.pinned (OpenSpec.upto fnExactLifeAnnuitySpec)

/-- 'laws.FnExactAnnuityPrices', WHERE WHAT IT READS IS OF BULK AT MOST 1048576: true; the input reads as it did. -/
def fnExactAnnuityPricesUptoRow : OpenClaim := { program := "ytegabpilmjicgaa", sum := "55fb811a112dd4859eb11e4f0124d20292490e36e71663746f74ccba1fb712fd", func := "loop.example/g01025/laws.FnExactAnnuityPrices", spec := "fnExactAnnuityPrices", named := ["math/bits.divideError", "math/bits.overflowError"], apart := false, narrowed := true }
def FnExactAnnuityPricesUptoSaid : Prop := fnExactAnnuityPricesUptoRow.holds Try.pinned (OpenSpec.upto fnExactAnnuityPricesSpec)

/-- 'laws.FnExactSureAnnuity', WHERE WHAT IT READS IS OF BULK AT MOST 1048576: true; the input reads as it did. -/
def fnExactSureAnnuityUptoRow : OpenClaim := { program := "ytegabpilmjicgaa", sum := "55fb811a112dd4859eb11e4f0124d20292490e36e71663746f74ccba1fb712fd", func := "loop.example/g01025/laws.FnExactSureAnnuity", spec := "fnExactSureAnnuity", named := ["math/bits.divideError", "math/bits.overflowError"], apart := false, narrowed := true }
def FnExactSureAnnuityUptoSaid : Prop := fnExactSureAnnuityUptoRow.holds Try.pinned (OpenSpec.upto fnExactSureAnnuitySpec)

/-- 'laws.FnExactSumFor', WHERE WHAT IT READS IS OF BULK AT MOST 1048576: true; the input reads as it did. -/
def fnExactSumForUptoRow : OpenClaim := { program := "ytegabpilmjicgaa", sum := "55fb811a112dd4859eb11e4f0124d20292490e36e71663746f74ccba1fb712fd", func := "loop.example/g01025/laws.FnExactSumFor", spec := "fnExactSumFor", named := ["math/bits.divideError", "math/bits.overflowError"], apart := false, narrowed := true }
def FnExactSumForUptoSaid : Prop := fnExactSumForUptoRow.holds Try.pinned (OpenSpec.upto fnExactSumForSpec)

/-- 'laws.FnExactAssurancePrice', WHERE WHAT IT READS IS OF BULK AT MOST 1048576: true; the input reads as it did. -/
def fnExactAssurancePriceUptoRow : OpenClaim := { program := "ytegabpilmjicgaa", sum := "55fb811a112dd4859eb11e4f0124d20292490e36e71663746f74ccba1fb712fd", func := "loop.example/g01025/laws.FnExactAssurancePrice", spec := "fnExactAssurancePrice", named := ["math/bits.divideError", "math/bits.overflowError"], apart := false, narrowed := true }
def FnExactAssurancePriceUptoSaid : Prop := fnExactAssurancePriceUptoRow.holds Try.pinned (OpenSpec.upto fnExactAssurancePriceSpec)

/-- 'laws.FnExactJointAnnuity', WHERE WHAT IT READS IS OF BULK AT MOST 1048576: true; the input reads as it did. -/
def fnExactJointAnnuityUptoRow : OpenClaim := { program := "ytegabpilmjicgaa", sum := "55fb811a112dd4859eb11e4f0124d20292490e36e71663746f74ccba1fb712fd", func := "loop.example/g01025/laws.FnExactJointAnnuity", spec := "fnExactJointAnnuity", named := ["math/bits.divideError", "math/bits.overflowError"], apart := false, narrowed := true }
def FnExactJointAnnuityUptoSaid : Prop := fnExactJointAnnuityUptoRow.holds Try.pinned (OpenSpec.upto fnExactJointAnnuitySpec)

/-- 'laws.FnExactWidowAnnuity', WHERE WHAT IT READS IS OF BULK AT MOST 1048576: true; the input reads as it did. -/
def fnExactWidowAnnuityUptoRow : OpenClaim := { program := "ytegabpilmjicgaa", sum := "55fb811a112dd4859eb11e4f0124d20292490e36e71663746f74ccba1fb712fd", func := "loop.example/g01025/laws.FnExactWidowAnnuity", spec := "fnExactWidowAnnuity", named := ["math/bits.divideError", "math/bits.overflowError"], apart := false, narrowed := true }
def FnExactWidowAnnuityUptoSaid : Prop := fnExactWidowAnnuityUptoRow.holds Try.pinned (OpenSpec.upto fnExactWidowAnnuitySpec)

/-- 'laws.FnExactTermPart', WHERE WHAT IT READS IS OF BULK AT MOST 1048576: true; the input reads as it did. -/
def fnExactTermPartUptoRow : OpenClaim := { program := "ytegabpilmjicgaa", sum := "55fb811a112dd4859eb11e4f0124d20292490e36e71663746f74ccba1fb712fd", func := "loop.example/g01025/laws.FnExactTermPart", spec := "fnExactTermPart", named := ["math/bits.divideError", "math/bits.overflowError"], apart := false, narrowed := true }
def FnExactTermPartUptoSaid : Prop := fnExactTermPartUptoRow.holds Try.pinned (OpenSpec.upto fnExactTermPartSpec)

/-- 'laws.FnExactNaturalPremiums', WHERE WHAT IT READS IS OF BULK AT MOST 1048576: true; the input reads as it did. -/
def fnExactNaturalPremiumsUptoRow : OpenClaim := { program := "ytegabpilmjicgaa", sum := "55fb811a112dd4859eb11e4f0124d20292490e36e71663746f74ccba1fb712fd", func := "loop.example/g01025/laws.FnExactNaturalPremiums", spec := "fnExactNaturalPremiums", named := ["math/bits.divideError", "math/bits.overflowError"], apart := false, narrowed := true }
def FnExactNaturalPremiumsUptoSaid : Prop := fnExactNaturalPremiumsUptoRow.holds Try.pinned (OpenSpec.upto fnExactNaturalPremiumsSpec)

/-- 'laws.FnExactLevelPremium', WHERE WHAT IT READS IS OF BULK AT MOST 1048576: true; the input reads as it did. -/
def fnExactLevelPremiumUptoRow : OpenClaim := { program := "ytegabpilmjicgaa", sum := "55fb811a112dd4859eb11e4f0124d20292490e36e71663746f74ccba1fb712fd", func := "loop.example/g01025/laws.FnExactLevelPremium", spec := "fnExactLevelPremium", named := ["math/bits.divideError", "math/bits.overflowError"], apart := false, narrowed := true }
def FnExactLevelPremiumUptoSaid : Prop := fnExactLevelPremiumUptoRow.holds Try.pinned (OpenSpec.upto fnExactLevelPremiumSpec)

/-- 'laws.FnExactLastAnnuity', WHERE WHAT IT READS IS OF BULK AT MOST 1048576: true; the input reads as it did. -/
def fnExactLastAnnuityUptoRow : OpenClaim := { program := "ytegabpilmjicgaa", sum := "55fb811a112dd4859eb11e4f0124d20292490e36e71663746f74ccba1fb712fd", func := "loop.example/g01025/laws.FnExactLastAnnuity", spec := "fnExactLastAnnuity", named := ["math/bits.divideError", "math/bits.overflowError"], apart := false, narrowed := true }
def FnExactLastAnnuityUptoSaid : Prop := fnExactLastAnnuityUptoRow.holds Try.pinned (OpenSpec.upto fnExactLastAnnuitySpec)

/-- 'laws.FnExactSickValue', WHERE WHAT IT READS IS OF BULK AT MOST 1048576: true; the input reads as it did. -/
def fnExactSickValueUptoRow : OpenClaim := { program := "ytegabpilmjicgaa", sum := "55fb811a112dd4859eb11e4f0124d20292490e36e71663746f74ccba1fb712fd", func := "loop.example/g01025/laws.FnExactSickValue", spec := "fnExactSickValue", unfollowed := true, recurses := true, named := ["math/bits.divideError", "math/bits.overflowError"], apart := false, narrowed := true }
def FnExactSickValueUptoSaid : Prop := fnExactSickValueUptoRow.holds Try.pinned (OpenSpec.upto fnExactSickValueSpec)

/-- 'laws.FnExactSickPremium', WHERE WHAT IT READS IS OF BULK AT MOST 1048576: true; the input reads as it did. -/
def fnExactSickPremiumUptoRow : OpenClaim := { program := "ytegabpilmjicgaa", sum := "55fb811a112dd4859eb11e4f0124d20292490e36e71663746f74ccba1fb712fd", func := "loop.example/g01025/laws.FnExactSickPremium", spec := "fnExactSickPremium", unfollowed := true, recurses := true, named := ["math/bits.divideError", "math/bits.overflowError"], apart := false, narrowed := true }
def FnExactSickPremiumUptoSaid : Prop := fnExactSickPremiumUptoRow.holds Try.pinned (OpenSpec.upto fnExactSickPremiumSpec)

/-- 'laws.FnExactWidowYears', WHERE WHAT IT READS IS OF BULK AT MOST 1048576: true; the input reads as it did. -/
def fnExactWidowYearsUptoRow : OpenClaim := { program := "ytegabpilmjicgaa", sum := "55fb811a112dd4859eb11e4f0124d20292490e36e71663746f74ccba1fb712fd", func := "loop.example/g01025/laws.FnExactWidowYears", spec := "fnExactWidowYears", recurses := true, apart := false, narrowed := true }
def FnExactWidowYearsUptoSaid : Prop := fnExactWidowYearsUptoRow.holds Try.pinned (OpenSpec.upto fnExactWidowYearsSpec)

end Rows
end Go.Proofs.Ytegabpilmjicgaa
