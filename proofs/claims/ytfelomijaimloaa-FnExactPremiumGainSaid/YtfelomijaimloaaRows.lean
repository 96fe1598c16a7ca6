/-
  No cell of these rows narrows 'for every input' (looked for: loops, veiled, ifaces, maps, wideKeys, modest, calm, conditions, laid).
  DERIVED. THE GIVEN ROWS OF THIS SEAT. 27 by the template 'for every input the law returns true; each argument reads behind the call as it read before'; 0 by the template 'total and deterministic' (their statements: YtfelomijaimloaaTotals.lean).
  GIVEN WITH THE SEED: the statements are not yours to turn. If you find one false, say at which input.
  Laid BY PROGRAM, IN A SANDBOX (cutbox-rows.mjs): the forced cells as the released guide's own fill.sh prints them over the translation cee955a2e2e370a7… (all of the seat's roots in one cut). By AI agents, Wed Nov 11 2026. No macro, syntax, notation, axiom, sorry.
-/
import Derived.Test.YtfelomijaimloaaChecked
import GoSem.Claim
import GoSem.ClaimJoined
import GoSem.ClaimMapViews
import Derived.JoinedTies
import Derived.KernelRfl
namespace Go.Proofs.Ytfelomijaimloaa
/- THE CELL 'sum', in the pinned program and in every row, IS THE sha256 OF THE DUMP (.gsa) THAT YtfelomijaimloaaProg.lean LOADS. Nothing in Lean hashes anything: it is a label: what it is worth is what the hold of that sum in a sandbox is worth. -/
noncomputable def Try.pinned : Pinned := { name := "ytfelomijaimloaa", sum := "cee955a2e2e370a771e090ba40c5199c6024ce44d1d2ff7203b80582609a49ee", checked := Try.checked }
namespace Rows
def none {H : Type} : Left H := { results := [], args := [] }

/-- 'laws.FnExactJointAnnuity': WHATEVER THE INPUT: true; the input reads as it did. -/
def fnExactJointAnnuitySpec : ChangeSpec := { name := "fnExactJointAnnuity", fn := fun _ => fun
  | [d1, d2, d3, d4, d5, d6] => { results := [.lit (.bool true)], args := [d1, d2, d3, d4, d5, d6] }
  | _ => none }
def fnExactJointAnnuityRow : OpenClaim := { program := "ytfelomijaimloaa", sum := "cee955a2e2e370a771e090ba40c5199c6024ce44d1d2ff7203b80582609a49ee", func := "loop.example/g01025/laws.FnExactJointAnnuity", spec := "fnExactJointAnnuity", named := ["math/bits.divideError", "math/bits.overflowError"], apart := false }
def FnExactJointAnnuitySaid : Prop := fnExactJointAnnuityRow.holds Try.pinned (OpenSpec.ofChange fnExactJointAnnuitySpec)

/-- ITS FALSE NEIGHBOUR: 'it returns false'. Refute it at one input. -/
def fnExactJointAnnuityWrong : ChangeSpec := { name := "fnExactJointAnnuity", fn := fun _ => fun
  | [d1, d2, d3, d4, d5, d6] => { results := [.lit (.bool false)], args := [d1, d2, d3, d4, d5, d6] }
  | _ => none }
def FnExactJointAnnuityWrongFalsely : Prop := fnExactJointAnnuityRow.holds Try.pinned (OpenSpec.ofChange fnExactJointAnnuityWrong)

/-- 'laws.FnExactWidowAnnuity': WHATEVER THE INPUT: true; the input reads as it did. -/
def fnExactWidowAnnuitySpec : ChangeSpec := { name := "fnExactWidowAnnuity", fn := fun _ => fun
  | [d1, d2, d3, d4, d5, d6] => { results := [.lit (.bool true)], args := [d1, d2, d3, d4, d5, d6] }
  | _ => none }
def fnExactWidowAnnuityRow : OpenClaim := { program := "ytfelomijaimloaa", sum := "cee955a2e2e370a771e090ba40c5199c6024ce44d1d2ff7203b80582609a49ee", func := "loop.example/g01025/laws.FnExactWidowAnnuity", spec := "fnExactWidowAnnuity", named := ["math/bits.divideError", "math/bits.overflowError"], apart := false }
def FnExactWidowAnnuitySaid : Prop := fnExactWidowAnnuityRow.holds Try.pinned (OpenSpec.ofChange fnExactWidowAnnuitySpec)

/-- ITS FALSE NEIGHBOUR: 'it returns false'. Refute it at one input. -/
def fnExactWidowAnnuityWrong : ChangeSpec := { name := "fnExactWidowAnnuity", fn := fun _ => fun
  | [d1, d2, d3, d4, d5, d6] => { results := [.lit (.bool false)], args := [d1, d2, d3, d4, d5, d6] }
  | _ => none }
def FnExactWidowAnnuityWrongFalsely : Prop := fnExactWidowAnnuityRow.holds Try.pinned (OpenSpec.ofChange fnExactWidowAnnuityWrong)

/-- 'laws.FnExactLastAnnuity': WHATEVER THE INPUT: true; the input reads as it did. -/
def fnExactLastAnnuitySpec : ChangeSpec := { name := "fnExactLastAnnuity", fn := fun _ => fun
  | [d1, d2, d3, d4, d5, d6] => { results := [.lit (.bool true)], args := [d1, d2, d3, d4, d5, d6] }
  | _ => none }
def fnExactLastAnnuityRow : OpenClaim := { program := "ytfelomijaimloaa", sum := "cee955a2e2e370a771e090ba40c5199c6024ce44d1d2ff7203b80582609a49ee", func := "loop.example/g01025/laws.FnExactLastAnnuity", spec := "fnExactLastAnnuity", named := ["math/bits.divideError", "math/bits.overflowError"], apart := false }
def FnExactLastAnnuitySaid : Prop := fnExactLastAnnuityRow.holds Try.pinned (OpenSpec.ofChange fnExactLastAnnuitySpec)

/-- ITS FALSE NEIGHBOUR: 'it returns false'. Refute it at one input. -/
def fnExactLastAnnuityWrong : ChangeSpec := { name := "fnExactLastAnnuity", fn := fun _ => fun
  | [d1, d2, d3, d4, d5, d6] => { results := [.lit (.bool false)], args := [d1, d2, d3, d4, d5, d6] }
  | _ => none }
def FnExactLastAnnuityWrongFalsely : Prop := fnExactLastAnnuityRow.holds Try.pinned (OpenSpec.ofChange fnExactLastAnnuityWrong)

/-- 'laws.FnExactWidowYears': WHATEVER THE INPUT: true; the input reads as it did. -/
def fnExactWidowYearsSpec : ChangeSpec := { name := "fnExactWidowYears", fn := fun _ => fun
  | [d1, d2, d3, d4] => { results := [.lit (.bool true)], args := [d1, d2, d3, d4] }
  | _ => none }
def fnExactWidowYearsRow : OpenClaim := { program := "ytfelomijaimloaa", sum := "cee955a2e2e370a771e090ba40c5199c6024ce44d1d2ff7203b80582609a49ee", func := "loop.example/g01025/laws.FnExactWidowYears", spec := "fnExactWidowYears", recurses := true, apart := false }
def FnExactWidowYearsSaid : Prop := fnExactWidowYearsRow.holds Try.pinned (OpenSpec.ofChange fnExactWidowYearsSpec)

/-- ITS FALSE NEIGHBOUR: 'it returns false'. Refute it at one input. -/
def fnExactWidowYearsWrong : ChangeSpec := { name := "fnExactWidowYears", fn := fun _ => fun
  | [d1, d2, d3, d4] => { results := [.lit (.bool false)], args := [d1, d2, d3, d4] }
  | _ => none }
def FnExactWidowYearsWrongFalsely : Prop := fnExactWidowYearsRow.holds Try.pinned (OpenSpec.ofChange fnExactWidowYearsWrong)

/-- 'laws.FnExactIsPolicy': WHATEVER THE INPUT: true; the input reads as it did. -/
def fnExactIsPolicySpec : ChangeSpec := { name := "fnExactIsPolicy", fn := fun _ => fun
  | [d1, d2] => { results := [.lit (.bool true)], args := [d1, d2] }
  | _ => none }
def fnExactIsPolicyRow : OpenClaim := { program := "ytfelomijaimloaa", sum := "cee955a2e2e370a771e090ba40c5199c6024ce44d1d2ff7203b80582609a49ee", func := "loop.example/g01025/laws.FnExactIsPolicy", spec := "fnExactIsPolicy", apart := false }
def FnExactIsPolicySaid : Prop := fnExactIsPolicyRow.holds Try.pinned (OpenSpec.ofChange fnExactIsPolicySpec)

/-- ITS FALSE NEIGHBOUR: 'it returns false'. Refute it at one input. -/
def fnExactIsPolicyWrong : ChangeSpec := { name := "fnExactIsPolicy", fn := fun _ => fun
  | [d1, d2] => { results := [.lit (.bool false)], args := [d1, d2] }
  | _ => none }
def FnExactIsPolicyWrongFalsely : Prop := fnExactIsPolicyRow.holds Try.pinned (OpenSpec.ofChange fnExactIsPolicyWrong)

/-- 'laws.FnExactBestLeaving': WHATEVER THE INPUT: true; the input reads as it did. -/
def fnExactBestLeavingSpec : ChangeSpec := { name := "fnExactBestLeaving", fn := fun _ => fun
  | [d1, d2] => { results := [.lit (.bool true)], args := [d1, d2] }
  | _ => none }
def fnExactBestLeavingRow : OpenClaim := { program := "ytfelomijaimloaa", sum := "cee955a2e2e370a771e090ba40c5199c6024ce44d1d2ff7203b80582609a49ee", func := "loop.example/g01025/laws.FnExactBestLeaving", spec := "fnExactBestLeaving", named := ["math/bits.divideError", "math/bits.overflowError"], apart := false }
def FnExactBestLeavingSaid : Prop := fnExactBestLeavingRow.holds Try.pinned (OpenSpec.ofChange fnExactBestLeavingSpec)

/-- ITS FALSE NEIGHBOUR: 'it returns false'. Refute it at one input. -/
def fnExactBestLeavingWrong : ChangeSpec := { name := "fnExactBestLeaving", fn := fun _ => fun
  | [d1, d2] => { results := [.lit (.bool false)], args := [d1, d2] }
  | _ => none }
def FnExactBestLeavingWrongFalsely : Prop := fnExactBestLeavingRow.holds Try.pinned (OpenSpec.ofChange fnExactBestLeavingWrong)

/-- 'laws.FnExactDurationOf': WHATEVER THE INPUT: true; the input reads as it did. -/
def fnExactDurationOfSpec : ChangeSpec := { name := "fnExactDurationOf", fn := fun _ => fun
  | [d1, d2] => { results := [.lit (.bool true)], args := [d1, d2] }
  | _ => none }
def fnExactDurationOfRow : OpenClaim := { program := "ytfelomijaimloaa", sum := "cee955a2e2e370a771e090ba40c5199c6024ce44d1d2ff7203b80582609a49ee", func := "loop.example/g01025/laws.FnExactDurationOf", spec := "fnExactDurationOf", apart := false }
def FnExactDurationOfSaid : Prop := fnExactDurationOfRow.holds Try.pinned (OpenSpec.ofChange fnExactDurationOfSpec)

/-- ITS FALSE NEIGHBOUR: 'it returns false'. Refute it at one input. -/
def fnExactDurationOfWrong : ChangeSpec := { name := "fnExactDurationOf", fn := fun _ => fun
  | [d1, d2] => { results := [.lit (.bool false)], args := [d1, d2] }
  | _ => none }
def FnExactDurationOfWrongFalsely : Prop := fnExactDurationOfRow.holds Try.pinned (OpenSpec.ofChange fnExactDurationOfWrong)

/-- 'laws.FnExactKeptYears': WHATEVER THE INPUT: true; the input reads as it did. -/
def fnExactKeptYearsSpec : ChangeSpec := { name := "fnExactKeptYears", fn := fun _ => fun
  | [d1, d2, d3] => { results := [.lit (.bool true)], args := [d1, d2, d3] }
  | _ => none }
def fnExactKeptYearsRow : OpenClaim := { program := "ytfelomijaimloaa", sum := "cee955a2e2e370a771e090ba40c5199c6024ce44d1d2ff7203b80582609a49ee", func := "loop.example/g01025/laws.FnExactKeptYears", spec := "fnExactKeptYears", named := ["math/bits.divideError", "math/bits.overflowError"], apart := false }
def FnExactKeptYearsSaid : Prop := fnExactKeptYearsRow.holds Try.pinned (OpenSpec.ofChange fnExactKeptYearsSpec)

/-- ITS FALSE NEIGHBOUR: 'it returns false'. Refute it at one input. -/
def fnExactKeptYearsWrong : ChangeSpec := { name := "fnExactKeptYears", fn := fun _ => fun
  | [d1, d2, d3] => { results := [.lit (.bool false)], args := [d1, d2, d3] }
  | _ => none }
def FnExactKeptYearsWrongFalsely : Prop := fnExactKeptYearsRow.holds Try.pinned (OpenSpec.ofChange fnExactKeptYearsWrong)

/-- 'laws.FnExactDenominatorAt': WHATEVER THE INPUT: true; the input reads as it did. -/
def fnExactDenominatorAtSpec : ChangeSpec := { name := "fnExactDenominatorAt", fn := fun _ => fun
  | [d1, d2, d3] => { results := [.lit (.bool true)], args := [d1, d2, d3] }
  | _ => none }
def fnExactDenominatorAtRow : OpenClaim := { program := "ytfelomijaimloaa", sum := "cee955a2e2e370a771e090ba40c5199c6024ce44d1d2ff7203b80582609a49ee", func := "loop.example/g01025/laws.FnExactDenominatorAt", spec := "fnExactDenominatorAt", apart := false }
def FnExactDenominatorAtSaid : Prop := fnExactDenominatorAtRow.holds Try.pinned (OpenSpec.ofChange fnExactDenominatorAtSpec)

/-- ITS FALSE NEIGHBOUR: 'it returns false'. Refute it at one input. -/
def fnExactDenominatorAtWrong : ChangeSpec := { name := "fnExactDenominatorAt", fn := fun _ => fun
  | [d1, d2, d3] => { results := [.lit (.bool false)], args := [d1, d2, d3] }
  | _ => none }
def FnExactDenominatorAtWrongFalsely : Prop := fnExactDenominatorAtRow.holds Try.pinned (OpenSpec.ofChange fnExactDenominatorAtWrong)

/-- 'laws.FnExactIsPortfolio': WHATEVER THE INPUT: true; the input reads as it did. -/
def fnExactIsPortfolioSpec : ChangeSpec := { name := "fnExactIsPortfolio", fn := fun _ => fun
  | [d1, d2] => { results := [.lit (.bool true)], args := [d1, d2] }
  | _ => none }
def fnExactIsPortfolioRow : OpenClaim := { program := "ytfelomijaimloaa", sum := "cee955a2e2e370a771e090ba40c5199c6024ce44d1d2ff7203b80582609a49ee", func := "loop.example/g01025/laws.FnExactIsPortfolio", spec := "fnExactIsPortfolio", unfollowed := true, recurses := true, apart := false }
def FnExactIsPortfolioSaid : Prop := fnExactIsPortfolioRow.holds Try.pinned (OpenSpec.ofChange fnExactIsPortfolioSpec)

/-- ITS FALSE NEIGHBOUR: 'it returns false'. Refute it at one input. -/
def fnExactIsPortfolioWrong : ChangeSpec := { name := "fnExactIsPortfolio", fn := fun _ => fun
  | [d1, d2] => { results := [.lit (.bool false)], args := [d1, d2] }
  | _ => none }
def FnExactIsPortfolioWrongFalsely : Prop := fnExactIsPortfolioRow.holds Try.pinned (OpenSpec.ofChange fnExactIsPortfolioWrong)

/-- 'laws.FnExactMaturingSums': WHATEVER THE INPUT: true; the input reads as it did. -/
def fnExactMaturingSumsSpec : ChangeSpec := { name := "fnExactMaturingSums", fn := fun _ => fun
  | [d1, d2] => { results := [.lit (.bool true)], args := [d1, d2] }
  | _ => none }
def fnExactMaturingSumsRow : OpenClaim := { program := "ytfelomijaimloaa", sum := "cee955a2e2e370a771e090ba40c5199c6024ce44d1d2ff7203b80582609a49ee", func := "loop.example/g01025/laws.FnExactMaturingSums", spec := "fnExactMaturingSums", unfollowed := true, recurses := true, apart := false }
def FnExactMaturingSumsSaid : Prop := fnExactMaturingSumsRow.holds Try.pinned (OpenSpec.ofChange fnExactMaturingSumsSpec)

/-- ITS FALSE NEIGHBOUR: 'it returns false'. Refute it at one input. -/
def fnExactMaturingSumsWrong : ChangeSpec := { name := "fnExactMaturingSums", fn := fun _ => fun
  | [d1, d2] => { results := [.lit (.bool false)], args := [d1, d2] }
  | _ => none }
def FnExactMaturingSumsWrongFalsely : Prop := fnExactMaturingSumsRow.holds Try.pinned (OpenSpec.ofChange fnExactMaturingSumsWrong)

/-- 'laws.FnExactNetPremium': WHATEVER THE INPUT: true; the input reads as it did. -/
def fnExactNetPremiumSpec : ChangeSpec := { name := "fnExactNetPremium", fn := fun _ => fun
  | [d1, d2] => { results := [.lit (.bool true)], args := [d1, d2] }
  | _ => none }
def fnExactNetPremiumRow : OpenClaim := { program := "ytfelomijaimloaa", sum := "cee955a2e2e370a771e090ba40c5199c6024ce44d1d2ff7203b80582609a49ee", func := "loop.example/g01025/laws.FnExactNetPremium", spec := "fnExactNetPremium", named := ["math/bits.divideError", "math/bits.overflowError"], apart := false }
def FnExactNetPremiumSaid : Prop := fnExactNetPremiumRow.holds Try.pinned (OpenSpec.ofChange fnExactNetPremiumSpec)

/-- ITS FALSE NEIGHBOUR: 'it returns false'. Refute it at one input. -/
def fnExactNetPremiumWrong : ChangeSpec := { name := "fnExactNetPremium", fn := fun _ => fun
  | [d1, d2] => { results := [.lit (.bool false)], args := [d1, d2] }
  | _ => none }
def FnExactNetPremiumWrongFalsely : Prop := fnExactNetPremiumRow.holds Try.pinned (OpenSpec.ofChange fnExactNetPremiumWrong)

/-- 'laws.FnExactPremiumGain': WHATEVER THE INPUT: true; the input reads as it did. -/
def fnExactPremiumGainSpec : ChangeSpec := { name := "fnExactPremiumGain", fn := fun _ => fun
  | [d1, d2] => { results := [.lit (.bool true)], args := [d1, d2] }
  | _ => none }
def fnExactPremiumGainRow : OpenClaim := { program := "ytfelomijaimloaa", sum := "cee955a2e2e370a771e090ba40c5199c6024ce44d1d2ff7203b80582609a49ee", func := "loop.example/g01025/laws.FnExactPremiumGain", spec := "fnExactPremiumGain", named := ["math/bits.divideError", "math/bits.overflowError"], apart := false }
def FnExactPremiumGainSaid : Prop := fnExactPremiumGainRow.holds Try.pinned (OpenSpec.ofChange fnExactPremiumGainSpec)

/-- ITS FALSE NEIGHBOUR: 'it returns false'. Refute it at one input. -/
def fnExactPremiumGainWrong : ChangeSpec := { name := "fnExactPremiumGain", fn := fun _ => fun
  | [d1, d2] => { results := [.lit (.bool false)], args := [d1, d2] }
  | _ => none }
def FnExactPremiumGainWrongFalsely : Prop := fnExactPremiumGainRow.holds Try.pinned (OpenSpec.ofChange fnExactPremiumGainWrong)

/-- 'laws.FnExactOfficePremium': WHATEVER THE INPUT: true; the input reads as it did. -/
def fnExactOfficePremiumSpec : ChangeSpec := { name := "fnExactOfficePremium", fn := fun _ => fun
  | [d1, d2] => { results := [.lit (.bool true)], args := [d1, d2] }
  | _ => none }
def fnExactOfficePremiumRow : OpenClaim := { program := "ytfelomijaimloaa", sum := "cee955a2e2e370a771e090ba40c5199c6024ce44d1d2ff7203b80582609a49ee", func := "loop.example/g01025/laws.FnExactOfficePremium", spec := "fnExactOfficePremium", named := ["math/bits.divideError", "math/bits.overflowError"], apart := false }
def FnExactOfficePremiumSaid : Prop := fnExactOfficePremiumRow.holds Try.pinned (OpenSpec.ofChange fnExactOfficePremiumSpec)

/-- ITS FALSE NEIGHBOUR: 'it returns false'. Refute it at one input. -/
def fnExactOfficePremiumWrong : ChangeSpec := { name := "fnExactOfficePremium", fn := fun _ => fun
  | [d1, d2] => { results := [.lit (.bool false)], args := [d1, d2] }
  | _ => none }
def FnExactOfficePremiumWrongFalsely : Prop := fnExactOfficePremiumRow.holds Try.pinned (OpenSpec.ofChange fnExactOfficePremiumWrong)

/-- 'laws.FnExactSumForPremium': WHATEVER THE INPUT: true; the input reads as it did. -/
def fnExactSumForPremiumSpec : ChangeSpec := { name := "fnExactSumForPremium", fn := fun _ => fun
  | [d1, d2, d3] => { results := [.lit (.bool true)], args := [d1, d2, d3] }
  | _ => none }
def fnExactSumForPremiumRow : OpenClaim := { program := "ytfelomijaimloaa", sum := "cee955a2e2e370a771e090ba40c5199c6024ce44d1d2ff7203b80582609a49ee", func := "loop.example/g01025/laws.FnExactSumForPremium", spec := "fnExactSumForPremium", named := ["math/bits.divideError", "math/bits.overflowError"], apart := false }
def FnExactSumForPremiumSaid : Prop := fnExactSumForPremiumRow.holds Try.pinned (OpenSpec.ofChange fnExactSumForPremiumSpec)

/-- ITS FALSE NEIGHBOUR: 'it returns false'. Refute it at one input. -/
def fnExactSumForPremiumWrong : ChangeSpec := { name := "fnExactSumForPremium", fn := fun _ => fun
  | [d1, d2, d3] => { results := [.lit (.bool false)], args := [d1, d2, d3] }
  | _ => none }
def FnExactSumForPremiumWrongFalsely : Prop := fnExactSumForPremiumRow.holds Try.pinned (OpenSpec.ofChange fnExactSumForPremiumWrong)

/-- 'laws.FnExactAgePortfolio': WHATEVER THE INPUT: true; the input reads as it did. -/
def fnExactAgePortfolioSpec : ChangeSpec := { name := "fnExactAgePortfolio", fn := fun _ => fun
  | [d1, d2, d3] => { results := [.lit (.bool true)], args := [d1, d2, d3] }
  | _ => none }
def fnExactAgePortfolioRow : OpenClaim := { program := "ytfelomijaimloaa", sum := "cee955a2e2e370a771e090ba40c5199c6024ce44d1d2ff7203b80582609a49ee", func := "loop.example/g01025/laws.FnExactAgePortfolio", spec := "fnExactAgePortfolio", unfollowed := true, recurses := true, apart := false }
def FnExactAgePortfolioSaid : Prop := fnExactAgePortfolioRow.holds Try.pinned (OpenSpec.ofChange fnExactAgePortfolioSpec)

/-- ITS FALSE NEIGHBOUR: 'it returns false'. Refute it at one input. -/
def fnExactAgePortfolioWrong : ChangeSpec := { name := "fnExactAgePortfolio", fn := fun _ => fun
  | [d1, d2, d3] => { results := [.lit (.bool false)], args := [d1, d2, d3] }
  | _ => none }
def FnExactAgePortfolioWrongFalsely : Prop := fnExactAgePortfolioRow.holds Try.pinned (OpenSpec.ofChange fnExactAgePortfolioWrong)

/-- 'laws.FnExactGainAt': WHATEVER THE INPUT: true; the input reads as it did. -/
def fnExactGainAtSpec : ChangeSpec := { name := "fnExactGainAt", fn := fun _ => fun
  | [d1, d2, d3] => { results := [.lit (.bool true)], args := [d1, d2, d3] }
  | _ => none }
def fnExactGainAtRow : OpenClaim := { program := "ytfelomijaimloaa", sum := "cee955a2e2e370a771e090ba40c5199c6024ce44d1d2ff7203b80582609a49ee", func := "loop.example/g01025/laws.FnExactGainAt", spec := "fnExactGainAt", named := ["math/bits.divideError", "math/bits.overflowError"], apart := false }
def FnExactGainAtSaid : Prop := fnExactGainAtRow.holds Try.pinned (OpenSpec.ofChange fnExactGainAtSpec)

/-- ITS FALSE NEIGHBOUR: 'it returns false'. Refute it at one input. -/
def fnExactGainAtWrong : ChangeSpec := { name := "fnExactGainAt", fn := fun _ => fun
  | [d1, d2, d3] => { results := [.lit (.bool false)], args := [d1, d2, d3] }
  | _ => none }
def FnExactGainAtWrongFalsely : Prop := fnExactGainAtRow.holds Try.pinned (OpenSpec.ofChange fnExactGainAtWrong)

/-- 'laws.FnExactExpectedClaims': WHATEVER THE INPUT: true; the input reads as it did. -/
def fnExactExpectedClaimsSpec : ChangeSpec := { name := "fnExactExpectedClaims", fn := fun _ => fun
  | [d1, d2] => { results := [.lit (.bool true)], args := [d1, d2] }
  | _ => none }
def fnExactExpectedClaimsRow : OpenClaim := { program := "ytfelomijaimloaa", sum := "cee955a2e2e370a771e090ba40c5199c6024ce44d1d2ff7203b80582609a49ee", func := "loop.example/g01025/laws.FnExactExpectedClaims", spec := "fnExactExpectedClaims", unfollowed := true, recurses := true, named := ["math/bits.divideError", "math/bits.overflowError"], apart := false }
def FnExactExpectedClaimsSaid : Prop := fnExactExpectedClaimsRow.holds Try.pinned (OpenSpec.ofChange fnExactExpectedClaimsSpec)

/-- ITS FALSE NEIGHBOUR: 'it returns false'. Refute it at one input. -/
def fnExactExpectedClaimsWrong : ChangeSpec := { name := "fnExactExpectedClaims", fn := fun _ => fun
  | [d1, d2] => { results := [.lit (.bool false)], args := [d1, d2] }
  | _ => none }
def FnExactExpectedClaimsWrongFalsely : Prop := fnExactExpectedClaimsRow.holds Try.pinned (OpenSpec.ofChange fnExactExpectedClaimsWrong)

/-- 'laws.FnExactForwardReserve': WHATEVER THE INPUT: true; the input reads as it did. -/
def fnExactForwardReserveSpec : ChangeSpec := { name := "fnExactForwardReserve", fn := fun _ => fun
  | [d1, d2, d3] => { results := [.lit (.bool true)], args := [d1, d2, d3] }
  | _ => none }
def fnExactForwardReserveRow : OpenClaim := { program := "ytfelomijaimloaa", sum := "cee955a2e2e370a771e090ba40c5199c6024ce44d1d2ff7203b80582609a49ee", func := "loop.example/g01025/laws.FnExactForwardReserve", spec := "fnExactForwardReserve", named := ["math/bits.divideError", "math/bits.overflowError"], apart := false }
def FnExactForwardReserveSaid : Prop := fnExactForwardReserveRow.holds Try.pinned (OpenSpec.ofChange fnExactForwardReserveSpec)

/-- ITS FALSE NEIGHBOUR: 'it returns false'. Refute it at one input. -/
def fnExactForwardReserveWrong : ChangeSpec := { name := "fnExactForwardReserve", fn := fun _ => fun
  | [d1, d2, d3] => { results := [.lit (.bool false)], args := [d1, d2, d3] }
  | _ => none }
def FnExactForwardReserveWrongFalsely : Prop := fnExactForwardReserveRow.holds Try.pinned (OpenSpec.ofChange fnExactForwardReserveWrong)

/-- 'laws.FnExactBackwardReserve': WHATEVER THE INPUT: true; the input reads as it did. -/
def fnExactBackwardReserveSpec : ChangeSpec := { name := "fnExactBackwardReserve", fn := fun _ => fun
  | [d1, d2, d3] => { results := [.lit (.bool true)], args := [d1, d2, d3] }
  | _ => none }
def fnExactBackwardReserveRow : OpenClaim := { program := "ytfelomijaimloaa", sum := "cee955a2e2e370a771e090ba40c5199c6024ce44d1d2ff7203b80582609a49ee", func := "loop.example/g01025/laws.FnExactBackwardReserve", spec := "fnExactBackwardReserve", named := ["math/bits.divideError", "math/bits.overflowError"], apart := false }
def FnExactBackwardReserveSaid : Prop := fnExactBackwardReserveRow.holds Try.pinned (OpenSpec.ofChange fnExactBackwardReserveSpec)

/-- ITS FALSE NEIGHBOUR: 'it returns false'. Refute it at one input. -/
def fnExactBackwardReserveWrong : ChangeSpec := { name := "fnExactBackwardReserve", fn := fun _ => fun
  | [d1, d2, d3] => { results := [.lit (.bool false)], args := [d1, d2, d3] }
  | _ => none }
def FnExactBackwardReserveWrongFalsely : Prop := fnExactBackwardReserveRow.holds Try.pinned (OpenSpec.ofChange fnExactBackwardReserveWrong)

/-- 'laws.FnExactReserveList': WHATEVER THE INPUT: true; the input reads as it did. -/
def fnExactReserveListSpec : ChangeSpec := { name := "fnExactReserveList", fn := fun _ => fun
  | [d1, d2] => { results := [.lit (.bool true)], args := [d1, d2] }
  | _ => none }
def fnExactReserveListRow : OpenClaim := { program := "ytfelomijaimloaa", sum := "cee955a2e2e370a771e090ba40c5199c6024ce44d1d2ff7203b80582609a49ee", func := "loop.example/g01025/laws.FnExactReserveList", spec := "fnExactReserveList", named := ["math/bits.divideError", "math/bits.overflowError"], apart := false }
def FnExactReserveListSaid : Prop := fnExactReserveListRow.holds Try.pinned (OpenSpec.ofChange fnExactReserveListSpec)

/-- ITS FALSE NEIGHBOUR: 'it returns false'. Refute it at one input. -/
def fnExactReserveListWrong : ChangeSpec := { name := "fnExactReserveList", fn := fun _ => fun
  | [d1, d2] => { results := [.lit (.bool false)], args := [d1, d2] }
  | _ => none }
def FnExactReserveListWrongFalsely : Prop := fnExactReserveListRow.holds Try.pinned (OpenSpec.ofChange fnExactReserveListWrong)

/-- 'laws.FnExactGreatestReserve': WHATEVER THE INPUT: true; the input reads as it did. -/
def fnExactGreatestReserveSpec : ChangeSpec := { name := "fnExactGreatestReserve", fn := fun _ => fun
  | [d1, d2] => { results := [.lit (.bool true)], args := [d1, d2] }
  | _ => none }
def fnExactGreatestReserveRow : OpenClaim := { program := "ytfelomijaimloaa", sum := "cee955a2e2e370a771e090ba40c5199c6024ce44d1d2ff7203b80582609a49ee", func := "loop.example/g01025/laws.FnExactGreatestReserve", spec := "fnExactGreatestReserve", named := ["math/bits.divideError", "math/bits.overflowError"], apart := false }
def FnExactGreatestReserveSaid : Prop := fnExactGreatestReserveRow.holds Try.pinned (OpenSpec.ofChange fnExactGreatestReserveSpec)

/-- ITS FALSE NEIGHBOUR: 'it returns false'. Refute it at one input. -/
def fnExactGreatestReserveWrong : ChangeSpec := { name := "fnExactGreatestReserve", fn := fun _ => fun
  | [d1, d2] => { results := [.lit (.bool false)], args := [d1, d2] }
  | _ => none }
def FnExactGreatestReserveWrongFalsely : Prop := fnExactGreatestReserveRow.holds Try.pinned (OpenSpec.ofChange fnExactGreatestReserveWrong)

/-- 'laws.FnExactLeavingLoss': WHATEVER THE INPUT: true; the input reads as it did. -/
def fnExactLeavingLossSpec : ChangeSpec := { name := "fnExactLeavingLoss", fn := fun _ => fun
  | [d1, d2, d3] => { results := [.lit (.bool true)], args := [d1, d2, d3] }
  | _ => none }
def fnExactLeavingLossRow : OpenClaim := { program := "ytfelomijaimloaa", sum := "cee955a2e2e370a771e090ba40c5199c6024ce44d1d2ff7203b80582609a49ee", func := "loop.example/g01025/laws.FnExactLeavingLoss", spec := "fnExactLeavingLoss", named := ["math/bits.divideError", "math/bits.overflowError"], apart := false }
def FnExactLeavingLossSaid : Prop := fnExactLeavingLossRow.holds Try.pinned (OpenSpec.ofChange fnExactLeavingLossSpec)

/-- ITS FALSE NEIGHBOUR: 'it returns false'. Refute it at one input. -/
def fnExactLeavingLossWrong : ChangeSpec := { name := "fnExactLeavingLoss", fn := fun _ => fun
  | [d1, d2, d3] => { results := [.lit (.bool false)], args := [d1, d2, d3] }
  | _ => none }
def FnExactLeavingLossWrongFalsely : Prop := fnExactLeavingLossRow.holds Try.pinned (OpenSpec.ofChange fnExactLeavingLossWrong)

/-- 'laws.FnExactSurrenderValue': WHATEVER THE INPUT: true; the input reads as it did. -/
def fnExactSurrenderValueSpec : ChangeSpec := { name := "fnExactSurrenderValue", fn := fun _ => fun
  | [d1, d2, d3] => { results := [.lit (.bool true)], args := [d1, d2, d3] }
  | _ => none }
def fnExactSurrenderValueRow : OpenClaim := { program := "ytfelomijaimloaa", sum := "cee955a2e2e370a771e090ba40c5199c6024ce44d1d2ff7203b80582609a49ee", func := "loop.example/g01025/laws.FnExactSurrenderValue", spec := "fnExactSurrenderValue", named := ["math/bits.divideError", "math/bits.overflowError"], apart := false }
def FnExactSurrenderValueSaid : Prop := fnExactSurrenderValueRow.holds Try.pinned (OpenSpec.ofChange fnExactSurrenderValueSpec)

/-- ITS FALSE NEIGHBOUR: 'it returns false'. Refute it at one input. -/
def fnExactSurrenderValueWrong : ChangeSpec := { name := "fnExactSurrenderValue", fn := fun _ => fun
  | [d1, d2, d3] => { results := [.lit (.bool false)], args := [d1, d2, d3] }
  | _ => none }
def FnExactSurrenderValueWrongFalsely : Prop := fnExactSurrenderValueRow.holds Try.pinned (OpenSpec.ofChange fnExactSurrenderValueWrong)

/-- 'laws.FnExactLoanLimit': WHATEVER THE INPUT: true; the input reads as it did. -/
def fnExactLoanLimitSpec : ChangeSpec := { name := "fnExactLoanLimit", fn := fun _ => fun
  | [d1, d2, d3] => { results := [.lit (.bool true)], args := [d1, d2, d3] }
  | _ => none }
def fnExactLoanLimitRow : OpenClaim := { program := "ytfelomijaimloaa", sum := "cee955a2e2e370a771e090ba40c5199c6024ce44d1d2ff7203b80582609a49ee", func := "loop.example/g01025/laws.FnExactLoanLimit", spec := "fnExactLoanLimit", named := ["math/bits.divideError", "math/bits.overflowError"], apart := false }
def FnExactLoanLimitSaid : Prop := fnExactLoanLimitRow.holds Try.pinned (OpenSpec.ofChange fnExactLoanLimitSpec)

/-- ITS FALSE NEIGHBOUR: 'it returns false'. Refute it at one input. -/
def fnExactLoanLimitWrong : ChangeSpec := { name := "fnExactLoanLimit", fn := fun _ => fun
  | [d1, d2, d3] => { results := [.lit (.bool false)], args := [d1, d2, d3] }
  | _ => none }
def FnExactLoanLimitWrongFalsely : Prop := fnExactLoanLimitRow.holds Try.pinned (OpenSpec.ofChange fnExactLoanLimitWrong)

/-- 'laws.FnExactRiskAt': WHATEVER THE INPUT: true; the input reads as it did. -/
def fnExactRiskAtSpec : ChangeSpec := { name := "fnExactRiskAt", fn := fun _ => fun
  | [d1, d2, d3] => { results := [.lit (.bool true)], args := [d1, d2, d3] }
  | _ => none }
def fnExactRiskAtRow : OpenClaim := { program := "ytfelomijaimloaa", sum := "cee955a2e2e370a771e090ba40c5199c6024ce44d1d2ff7203b80582609a49ee", func := "loop.example/g01025/laws.FnExactRiskAt", spec := "fnExactRiskAt", named := ["math/bits.divideError", "math/bits.overflowError"], apart := false }
def FnExactRiskAtSaid : Prop := fnExactRiskAtRow.holds Try.pinned (OpenSpec.ofChange fnExactRiskAtSpec)

/-- ITS FALSE NEIGHBOUR: 'it returns false'. Refute it at one input. -/
def fnExactRiskAtWrong : ChangeSpec := { name := "fnExactRiskAt", fn := fun _ => fun
  | [d1, d2, d3] => { results := [.lit (.bool false)], args := [d1, d2, d3] }
  | _ => none }
def FnExactRiskAtWrongFalsely : Prop := fnExactRiskAtRow.holds Try.pinned (OpenSpec.ofChange fnExactRiskAtWrong)

/-- 'laws.FnExactPaidUpSum': WHATEVER THE INPUT: true; the input reads as it did. -/
def fnExactPaidUpSumSpec : ChangeSpec := { name := "fnExactPaidUpSum", fn := fun _ => fun
  | [d1, d2, d3] => { results := [.lit (.bool true)], args := [d1, d2, d3] }
  | _ => none }
def fnExactPaidUpSumRow : OpenClaim := { program := "ytfelomijaimloaa", sum := "cee955a2e2e370a771e090ba40c5199c6024ce44d1d2ff7203b80582609a49ee", func := "loop.example/g01025/laws.FnExactPaidUpSum", spec := "fnExactPaidUpSum", named := ["math/bits.divideError", "math/bits.overflowError"], apart := false }
def FnExactPaidUpSumSaid : Prop := fnExactPaidUpSumRow.holds Try.pinned (OpenSpec.ofChange fnExactPaidUpSumSpec)

/-- ITS FALSE NEIGHBOUR: 'it returns false'. Refute it at one input. -/
def fnExactPaidUpSumWrong : ChangeSpec := { name := "fnExactPaidUpSum", fn := fun _ => fun
  | [d1, d2, d3] => { results := [.lit (.bool false)], args := [d1, d2, d3] }
  | _ => none }
def FnExactPaidUpSumWrongFalsely : Prop := fnExactPaidUpSumRow.holds Try.pinned (OpenSpec.ofChange fnExactPaidUpSumWrong)

/- THE SECOND FORM. 'bulk': how many values and letters a reading holds, each counted each time it is reached (what is shared counts as often as it is met; a slice's spare places count too). A statement '..UptoSaid' is the law's where the arguments, and the package variables that the reading takes, are together of bulk at most 1048576: NARROWER than '..Said'. Prove '..Said' where nothing that the law and all that it calls make is longer than what came in: it says more and counts as full. Else prove '..UptoSaid'. A law counts once. -/
mutual
def uptoBulk {H : Type} : DataW H → Nat
  | .lit (.string bytes) => bytes.length + 1
  | .lit _ => 1
  | .nil => 1
  | .ptr d => uptoBulk d + 1
  | .slice elems spare => uptoBulkAll elems + uptoBulkAll spare + 1
  | .agg parts => uptoBulkAll parts + 1
  | .iface _ d => uptoBulk d + 1
  | .map entries => uptoBulkEntries entries + 1
  | .held _ => 1
def uptoBulkAll {H : Type} : List (DataW H) → Nat
  | [] => 0
  | d :: r => uptoBulk d + uptoBulkAll r
def uptoBulkEntries {H : Type} : List (Lit × DataW H) → Nat
  | [] => 0
  | x :: r => uptoBulkEntry x + uptoBulkEntries r
def uptoBulkEntry {H : Type} : Lit × DataW H → Nat
  | (.string bytes, d) => bytes.length + uptoBulk d + 1
  | (_, d) => uptoBulk d + 1
 end
def uptoSmall : (H : Type) → List (DataW H) → Bool := fun _ ds => decide (uptoBulkAll ds ≤ 1048576)
def OpenSpec.upto (s : _root_.Go.ChangeSpec) : _root_.Go.OpenSpec := { _root_.Go.OpenSpec.ofChange s with cond := some uptoSmall }

/-- 'laws.FnExactJointAnnuity', WHERE WHAT IT READS IS OF BULK AT MOST 1048576: true; the input reads as it did. -/
def fnExactJointAnnuityUptoRow : OpenClaim := { program := "ytfelomijaimloaa", sum := "cee955a2e2e370a771e090ba40c5199c6024ce44d1d2ff7203b80582609a49ee", func := "loop.example/g01025/laws.FnExactJointAnnuity", spec := "fnExactJointAnnuity", named := ["math/bits.divideError", "math/bits.overflowError"], apart := false, narrowed := true }
def FnExactJointAnnuityUptoSaid : Prop := fnExactJointAnnuityUptoRow.holds Try.pinned (OpenSpec.upto fnExactJointAnnuitySpec)

/-- 'laws.FnExactWidowAnnuity', WHERE WHAT IT READS IS OF BULK AT MOST 1048576: true; the input reads as it did. -/
def fnExactWidowAnnuityUptoRow : OpenClaim := { program := "ytfelomijaimloaa", sum := "cee955a2e2e370a771e090ba40c5199c6024ce44d1d2ff7203b80582609a49ee", func := "loop.example/g01025/laws.FnExactWidowAnnuity", spec := "fnExactWidowAnnuity", named := ["math/bits.divideError", "math/bits.overflowError"], apart := false, narrowed := true }
def FnExactWidowAnnuityUptoSaid : Prop := fnExactWidowAnnuityUptoRow.holds Try.pinned (OpenSpec.upto fnExactWidowAnnuitySpec)

/-- 'laws.FnExactLastAnnuity', WHERE WHAT IT READS IS OF BULK AT MOST 1048576: true; the input reads as it did. -/
def fnExactLastAnnuityUptoRow : OpenClaim := { program := "ytfelomijaimloaa", sum := "cee955a2e2e370a771e090ba40c5199c6024ce44d1d2ff7203b80582609a49ee", func := "loop.example/g01025/laws.FnExactLastAnnuity", spec := "fnExactLastAnnuity", named := ["math/bits.divideError", "math/bits.overflowError"], apart := false, narrowed := true }
def FnExactLastAnnuityUptoSaid : Prop := fnExactLastAnnuityUptoRow.holds Try.pinned (OpenSpec.upto fnExactLastAnnuitySpec)

/-- 'laws.FnExactWidowYears', WHERE WHAT IT READS IS OF BULK AT MOST 1048576: true; the input reads as it did. -/
def fnExactWidowYearsUptoRow : OpenClaim := { program := "ytfelomijaimloaa", sum := "cee955a2e2e370a771e090ba40c5199c6024ce44d1d2ff7203b80582609a49ee", func := "loop.example/g01025/laws.FnExactWidowYears", spec := "fnExactWidowYears", recurses := true, apart := false, narrowed := true }
def FnExactWidowYearsUptoSaid : Prop := fnExactWidowYearsUptoRow.holds Try.pinned (OpenSpec.upto fnExactWidowYearsSpec)

/-- 'laws.FnExactIsPolicy', WHERE WHAT IT READS IS OF BULK AT MOST 1048576: true; the input reads as it did. -/
def fnExactIsPolicyUptoRow : OpenClaim := { program := "ytfelomijaimloaa", sum := "cee955a2e2e370a771e090ba40c5199c6024ce44d1d2ff7203b80582609a49ee", func := "loop.example/g01025/laws.FnExactIsPolicy", spec := "fnExactIsPolicy", apart := false, narrowed := true }
def FnExactIsPolicyUptoSaid : Prop := fnExactIsPolicyUptoRow.holds Try.pinned (OpenSpec.upto fnExactIsPolicySpec)

/-- 'laws.FnExactBestLeaving', WHERE WHAT IT READS IS OF BULK AT MOST 1048576: true; the input reads as it did. -/
def fnExactBestLeavingUptoRow : OpenClaim := { program := "ytfelomijaimloaa", sum := "cee955a2e2e370a771e090ba40c5199c6024ce44d1d2ff7203b80582609a49ee", func := "loop.example/g01025/laws.FnExactBestLeaving", spec := "fnExactBestLeaving", named := ["math/bits.divideError", "math/bits.overflowError"], apart := false, narrowed := true }
def FnExactBestLeavingUptoSaid : Prop := fnExactBestLeavingUptoRow.holds Try.pinned (OpenSpec.upto fnExactBestLeavingSpec)

/-- 'laws.FnExactDurationOf', WHERE WHAT IT READS IS OF BULK AT MOST 1048576: true; the input reads as it did. -/
def fnExactDurationOfUptoRow : OpenClaim := { program := "ytfelomijaimloaa", sum := "cee955a2e2e370a771e090ba40c5199c6024ce44d1d2ff7203b80582609a49ee", func := "loop.example/g01025/laws.FnExactDurationOf", spec := "fnExactDurationOf", apart := false, narrowed := true }
def FnExactDurationOfUptoSaid : Prop := fnExactDurationOfUptoRow.holds Try.pinned (OpenSpec.upto fnExactDurationOfSpec)

/-- 'laws.FnExactKeptYears', WHERE WHAT IT READS IS OF BULK AT MOST 1048576: true; the input reads as it did. -/
def fnExactKeptYearsUptoRow : OpenClaim := { program := "ytfelomijaimloaa", sum := "cee955a2e2e370a771e090ba40c5199c6024ce44d1d2ff7203b80582609a49ee", func := "loop.example/g01025/laws.FnExactKeptYears", spec := "fnExactKeptYears", named := ["math/bits.divideError", "math/bits.overflowError"], apart := false, narrowed := true }
def FnExactKeptYearsUptoSaid : Prop := fnExactKeptYearsUptoRow.holds Try.pinned (OpenSpec.upto fnExactKeptYearsSpec)

/-- 'laws.FnExactDenominatorAt', WHERE WHAT IT READS IS OF BULK AT MOST 1048576: true; the input reads as it did. -/
def fnExactDenominatorAtUptoRow : OpenClaim := { program := "ytfelomijaimloaa", sum := "cee955a2e2e370a771e090ba40c5199c6024ce44d1d2ff7203b80582609a49ee", func := "loop.example/g01025/laws.FnExactDenominatorAt", spec := "fnExactDenominatorAt", apart := false, narrowed := true }
def FnExactDenominatorAtUptoSaid : Prop := fnExactDenominatorAtUptoRow.holds Try.pinned (OpenSpec.upto fnExactDenominatorAtSpec)

/-- 'laws.FnExactIsPortfolio', WHERE WHAT IT READS IS OF BULK AT MOST 1048576: true; the input reads as it did. -/
def fnExactIsPortfolioUptoRow : OpenClaim := { program := "ytfelomijaimloaa", sum := "cee955a2e2e370a771e090ba40c5199c6024ce44d1d2ff7203b80582609a49ee", func := "loop.example/g01025/laws.FnExactIsPortfolio", spec := "fnExactIsPortfolio", unfollowed := true, recurses := true, apart := false, narrowed := true }
def FnExactIsPortfolioUptoSaid : Prop := fnExactIsPortfolioUptoRow.holds Try.pinned (OpenSpec.upto fnExactIsPortfolioSpec)

/-- 'laws.FnExactMaturingSums', WHERE WHAT IT READS IS OF BULK AT MOST 1048576: true; the input reads as it did. -/
def fnExactMaturingSumsUptoRow : OpenClaim := { program := "ytfelomijaimloaa", sum := "cee955a2e2e370a771e090ba40c5199c6024ce44d1d2ff7203b80582609a49ee", func := "loop.example/g01025/laws.FnExactMaturingSums", spec := "fnExactMaturingSums", unfollowed := true, recurses := true, apart := false, narrowed := true }
def FnExactMaturingSumsUptoSaid : Prop := fnExactMaturingSumsUptoRow.holds Try.pinned (OpenSpec.upto fnExactMaturingSumsSpec)

/-- 'laws.FnExactNetPremium', WHERE WHAT IT READS IS OF BULK AT MOST 1048576: true; the input reads as it did. -/
def fnExactNetPremiumUptoRow : OpenClaim := { program := "ytfelomijaimloaa", sum := "cee955a2e2e370a771e090ba40c5199c6024ce44d1d2ff7203b80582609a49ee", func := "loop.example/g01025/laws.FnExactNetPremium", spec := "fnExactNetPremium", named := ["math/bits.divideError", "math/bits.overflowError"], apart := false, narrowed := true }
def FnExactNetPremiumUptoSaid : Prop := fnExactNetPremiumUptoRow.holds Try.pinned (OpenSpec.upto fnExactNetPremiumSpec)

/-- 'laws.FnExactPremiumGain', WHERE WHAT IT READS IS OF BULK AT MOST 1048576: true; the input reads as it did. -/
def fnExactPremiumGainUptoRow : OpenClaim := { program := "ytfelomijaimloaa", sum := "cee955a2e2e370a771e090ba40c5199c6024ce44d1d2ff7203b80582609a49ee", func := "loop.example/g01025/laws.FnExactPremiumGain", spec := "fnExactPremiumGain", named := ["math/bits.divideError", "math/bits.overflowError"], apart := false, narrowed := true }
def FnExactPremiumGainUptoSaid : Prop := fnExactPremiumGainUptoRow.holds Try.pinned (OpenSpec.upto fnExactPremiumGainSpec)

/-- 'laws.FnExactOfficePremium', WHERE WHAT IT READS IS OF BULK AT MOST 1048576: true; the input reads as it did. -/
def fnExactOfficePremiumUptoRow : OpenClaim := { program := "ytfelomijaimloaa", sum := "cee955a2e2e370a771e090ba40c5199c6024ce44d1d2ff7203b80582609a49ee", func := "loop.example/g01025/laws.FnExactOfficePremium", spec := "fnExactOfficePremium", named := ["math/bits.divideError", "math/bits.overflowError"], apart := false, narrowed := true }
def FnExactOfficePremiumUptoSaid : Prop := fnExactOfficePremiumUptoRow.holds Try.pinned (OpenSpec.upto fnExactOfficePremiumSpec)

/-- 'laws.FnExactSumForPremium', WHERE WHAT IT READS IS OF BULK AT MOST 1048576: true; the input reads as it did. -/
def fnExactSumForPremiumUptoRow : OpenClaim := { program := "ytfelomijaimloaa", sum := "cee955a2e2e370a771e090ba40c5199c6024ce44d1d2ff7203b80582609a49ee", func := "loop.example/g01025/laws.FnExactSumForPremium", spec := "fnExactSumForPremium", named := ["math/bits.divideError", "math/bits.overflowError"], apart := false, narrowed := true }
def FnExactSumForPremiumUptoSaid : Prop := fnExactSumForPremiumUptoRow.holds Try.pinned (OpenSpec.upto fnExactSumForPremiumSpec)

/-- 'laws.FnExactAgePortfolio', WHERE WHAT IT READS IS OF BULK AT MOST 1048576: true; the input reads as it did. -/
def fnExactAgePortfolioUptoRow : OpenClaim := { program := "ytfelomijaimloaa", sum := "cee955a2e2e370a771e090ba40c5199c6024ce44d1d2ff7203b80582609a49ee", func := "loop.example/g01025/laws.FnExactAgePortfolio", spec := "fnExactAgePortfolio", unfollowed := true, recurses := true, apart := false, narrowed := true }
def FnExactAgePortfolioUptoSaid : Prop := fnExactAgePortfolioUptoRow.holds Try.pinned (OpenSpec.upto fnExactAgePortfolioSpec)

/-- 'laws.FnExactGainAt', WHERE WHAT IT READS IS OF BULK AT MOST 1048576: true; the input reads as it did. -/
def fnExactGainAtUptoRow : OpenClaim := { program := "ytfelomijaimloaa", sum := "cee955a2e2e370a771e090ba40c5199c6024ce44d1d2ff7203b80582609a49ee", func := "loop.example/g01025/laws.FnExactGainAt", spec := "fnExactGainAt", named := ["math/bits.divideError", "math/bits.overflowError"], apart := false, narrowed := true }
def FnExactGainAtUptoSaid : Prop := fnExactGainAtUptoRow.holds Try.pinned (OpenSpec.upto fnExactGainAtSpec)

/-- 'laws.FnExactExpectedClaims', WHERE WHAT IT READS IS OF BULK AT MOST 1048576: true; the input reads as it did. -/
def fnExactExpectedClaimsUptoRow : OpenClaim := { program := "ytfelomijaimloaa", sum := "cee955a2e2e370a771e090ba40c5199c6024ce44d1d2ff7203b80582609a49ee", func := "loop.example/g01025/laws.FnExactExpectedClaims", spec := "fnExactExpectedClaims", unfollowed := true, recurses := true, named := ["math/bits.divideError", "math/bits.overflowError"], apart := false, narrowed := true }
def FnExactExpectedClaimsUptoSaid : Prop := fnExactExpectedClaimsUptoRow.holds Try.pinned (OpenSpec.upto fnExactExpectedClaimsSpec)

/-- 'laws.FnExactForwardReserve', WHERE WHAT IT READS IS OF BULK AT MOST 1048576: true; the input reads as it did. -/
def fnExactForwardReserveUptoRow : OpenClaim := { program := "ytfelomijaimloaa", sum := "cee955a2e2e370a771e090ba40c5199c6024ce44d1d2ff7203b80582609a49ee", func := "loop.example/g01025/laws.FnExactForwardReserve", spec := "fnExactForwardReserve", named := ["math/bits.divideError", "math/bits.overflowError"], apart := false, narrowed := true }
def FnExactForwardReserveUptoSaid : Prop := fnExactForwardReserveUptoRow.holds Try.pinned (OpenSpec.upto fnExactForwardReserveSpec)

/-- 'laws.FnExactBackwardReserve', WHERE WHAT IT READS IS OF BULK AT MOST 1048576: true; the input reads as it did. -/
def fnExactBackwardReserveUptoRow : OpenClaim := { program := "ytfelomijaimloaa", sum := "cee955a2e2e370a771e090ba40c5199c6024ce44d1d2ff7203b80582609a49ee", func := "loop.example/g01025/laws.FnExactBackwardReserve", spec := "fnExactBackwardReserve", named := ["math/bits.divideError", "math/bits.overflowError"], apart := false, narrowed := true }
def FnExactBackwardReserveUptoSaid : Prop := fnExactBackwardReserveUptoRow.holds Try.pinned (OpenSpec.upto fnExactBackwardReserveSpec)

/-- 'laws.FnExactReserveList', WHERE WHAT IT READS IS OF BULK AT MOST 1048576: true; the input reads as it did. -/
def fnExactReserveListUptoRow : OpenClaim := { program := "ytfelomijaimloaa", sum := "cee955a2e2e370a771e090ba40c5199c6024ce44d1d2ff7203b80582609a49ee", func := "loop.example/g01025/laws.FnExactReserveList", spec := "fnExactReserveList", named := ["math/bits.divideError", "math/bits.overflowError"], apart := false, narrowed := true }
def FnExactReserveListUptoSaid : Prop := fnExactReserveListUptoRow.holds Try.pinned (OpenSpec.upto fnExactReserveListSpec)

/-- 'laws.FnExactGreatestReserve', WHERE WHAT IT READS IS OF BULK AT MOST 1048576: true; the input reads as it did. -/
def fnExactGreatestReserveUptoRow : OpenClaim := { program := "ytfelomijaimloaa", sum := "cee955a2e2e370a771e090ba40c5199c6024ce44d1d2ff7203b80582609a49ee", func := "loop.example/g01025/laws.FnExactGreatestReserve", spec := "fnExactGreatestReserve", named := ["math/bits.divideError", "math/bits.overflowError"], apart := false, narrowed := true }
def FnExactGreatestReserveUptoSaid : Prop := fnExactGreatestReserveUptoRow.holds Try.pinned (OpenSpec.upto fnExactGreatestReserveSpec)

/-- 'laws.FnExactLeavingLoss', WHERE WHAT IT READS IS OF BULK AT MOST 1048576: true; the input reads as it did. -/
def fnExactLeavingLossUptoRow : OpenClaim := { program := "ytfelomijaimloaa", sum := "cee955a2e2e370a771e090ba40c5199c6024ce44d1d2ff7203b80582609a49ee", func := "loop.example/g01025/laws.FnExactLeavingLoss", spec := "fnExactLeavingLoss", named := ["math/bits.divideError", "math/bits.overflowError"], apart := false, narrowed := true }
def FnExactLeavingLossUptoSaid : Prop := fnExactLeavingLossUptoRow.holds Try.pinned (OpenSpec.upto fnExactLeavingLossSpec)

/-- 'laws.FnExactSurrenderValue', WHERE WHAT IT READS IS OF BULK AT MOST 1048576: true; the input reads as it did. -/
def fnExactSurrenderValueUptoRow : OpenClaim := { program := "ytfelomijaimloaa", sum := "cee955a2e2e370a771e090ba40c5199c6024ce44d1d2ff7203b80582609a49ee", func := "loop.example/g01025/laws.FnExactSurrenderValue", spec := "fnExactSurrenderValue", named := ["math/bits.divideError", "math/bits.overflowError"], apart := false, narrowed := true }
def FnExactSurrenderValueUptoSaid : Prop := fnExactSurrenderValueUptoRow.holds Try.pinned (OpenSpec.upto fnExactSurrenderValueSpec)

/-- 'laws.FnExactLoanLimit', WHERE WHAT IT READS IS OF BULK AT MOST 1048576: true; the input reads as it did. -/
def fnExactLoanLimitUptoRow : OpenClaim := { program := "ytfelomijaimloaa", sum := "cee955a2e2e370a771e090ba40c5199c6024ce44d1d2ff7203b80582609a49ee", func := "loop.example/g01025/laws.FnExactLoanLimit", spec := "fnExactLoanLimit", named := ["math/bits.divideError", "math/bits.overflowError"], apart := false, narrowed := true }
def FnExactLoanLimitUptoSaid : Prop := fnExactLoanLimitUptoRow.holds Try.pinned (OpenSpec.upto fnExactLoanLimitSpec)

/-- 'laws.FnExactRiskAt', WHERE WHAT IT READS IS OF BULK AT MOST 1048576: true; the input reads as it did. -/
def fnExactRiskAtUptoRow : OpenClaim := { program := "ytfelomijaimloaa", sum := "cee955a2e2e370a771e090ba40c5199c6024ce44d1d2ff7203b80582609a49ee", func := "loop.example/g01025/laws.FnExactRiskAt", spec := "fnExactRiskAt", named := ["math/bits.divideError", "math/bits.overflowError"], apart := false, narrowed := true }
def FnExactRiskAtUptoSaid : Prop := fnExactRiskAtUptoRow.holds Try.pinned (OpenSpec.upto fnExactRiskAtSpec)

/-- 'laws.FnExactPaidUpSum', WHERE WHAT IT READS IS OF BULK AT MOST 1048576: true; the input reads as it did. -/
def fnExactPaidUpSumUptoRow : OpenClaim := { program := "ytfelomijaimloaa", sum := "cee955a2e2e370a771e090ba40c5199c6024ce44d1d2ff7203b80582609a49ee", func := "loop.example/g01025/laws.FnExactPaidUpSum", spec := "fnExactPaidUpSum", named := ["math/bits.divideError", "math/bits.overflowError"], apart := false, narrowed := true }
def FnExactPaidUpSumUptoSaid : Prop := fnExactPaidUpSumUptoRow.holds Try.pinned (OpenSpec.upto fnExactPaidUpSumSpec)

end Rows
end Go.Proofs.Ytfelomijaimloaa
