/-
  No cell of these rows narrows 'for every input' (looked for: loops, veiled, ifaces, maps, wideKeys, modest, calm, conditions, laid).
  DERIVED. THE GIVEN ROWS OF THIS SEAT. 33 by the template 'for every input the law returns true; each argument reads behind the call as it read before'; 0 by the template 'total and deterministic' (their statements: YtklnikaakpebnaaTotals.lean).
  GIVEN WITH THE SEED: the statements are not yours to turn. If you find one false, say at which input.
  Laid BY PROGRAM, IN A SANDBOX (cutbox-rows.mjs): the forced cells as the released guide's own fill.sh prints them over the translation d321f223427b5904… (all of the seat's roots in one cut). By AI agents, Wed Nov 11 2026. No macro, syntax, notation, axiom, sorry.
-/
import Derived.Test.YtklnikaakpebnaaChecked
import GoSem.Claim
import GoSem.ClaimJoined
import GoSem.ClaimMapViews
import Derived.JoinedTies
import Derived.KernelRfl
namespace Go.Proofs.Ytklnikaakpebnaa
/- THE CELL 'sum', in the pinned program and in every row, IS THE sha256 OF THE DUMP (.gsa) THAT YtklnikaakpebnaaProg.lean LOADS. Nothing in Lean hashes anything: it is a label: what it is worth is what the hold of that sum in a sandbox is worth. -/
noncomputable def Try.pinned : Pinned := { name := "ytklnikaakpebnaa", sum := "d321f223427b59042a561042eb05f3e342df6a05bd47c6fd4ced40069a1fdfdb", checked := Try.checked }
namespace Rows
def none {H : Type} : Left H := { results := [], args := [] }

/-- 'laws.FnExactJointAnnuity': WHATEVER THE INPUT: true; the input reads as it did. -/
def fnExactJointAnnuitySpec : ChangeSpec := { name := "fnExactJointAnnuity", fn := fun _ => fun
  | [d1, d2, d3, d4, d5, d6] => { results := [.lit (.bool true)], args := [d1, d2, d3, d4, d5, d6] }
  | _ => none }
def fnExactJointAnnuityRow : OpenClaim := { program := "ytklnikaakpebnaa", sum := "d321f223427b59042a561042eb05f3e342df6a05bd47c6fd4ced40069a1fdfdb", func := "loop.example/g01025/laws.FnExactJointAnnuity", spec := "fnExactJointAnnuity", named := ["math/bits.divideError", "math/bits.overflowError"], apart := false }
def FnExactJointAnnuitySaid : Prop := fnExactJointAnnuityRow.holds Try.pinned (OpenSpec.ofChange fnExactJointAnnuitySpec)

/-- ITS FALSE NEIGHBOUR: 'it returns false'. Refute it at one input. -/
def fnExactJointAnnuityWrong : ChangeSpec := { name := "fnExactJointAnnuity", fn := fun _ => fun
  | [d1, d2, d3, d4, d5, d6] => { results := [.lit (.bool false)], args := [d1, d2, d3, d4, d5, d6] }
  | _ => none }
def FnExactJointAnnuityWrongFalsely : Prop := fnExactJointAnnuityRow.holds Try.pinned (OpenSpec.ofChange fnExactJointAnnuityWrong)

/-- 'laws.FnExactWidowAnnuity': WHATEVER THE INPUT: true; the input reads as it did. -/
def fnExactWidowAnnuitySpec : ChangeSpec := { name := "fnExactWidowAnnuity", fn := fun _ => fun
  | [d1, d2, d3, d4, d5, d6] => { results := [.lit (.bool true)], args := [d1, d2, d3, d4, d5, d6] }
  | _ => none }
def fnExactWidowAnnuityRow : OpenClaim := { program := "ytklnikaakpebnaa", sum := "d321f223427b59042a561042eb05f3e342df6a05bd47c6fd4ced40069a1fdfdb", func := "loop.example/g01025/laws.FnExactWidowAnnuity", spec := "fnExactWidowAnnuity", named := ["math/bits.divideError", "math/bits.overflowError"], apart := false }
def FnExactWidowAnnuitySaid : Prop := fnExactWidowAnnuityRow.holds Try.pinned (OpenSpec.ofChange fnExactWidowAnnuitySpec)

/-- ITS FALSE NEIGHBOUR: 'it returns false'. Refute it at one input. -/
def fnExactWidowAnnuityWrong : ChangeSpec := { name := "fnExactWidowAnnuity", fn := fun _ => fun
  | [d1, d2, d3, d4, d5, d6] => { results := [.lit (.bool false)], args := [d1, d2, d3, d4, d5, d6] }
  | _ => none }
def FnExactWidowAnnuityWrongFalsely : Prop := fnExactWidowAnnuityRow.holds Try.pinned (OpenSpec.ofChange fnExactWidowAnnuityWrong)

/-- 'laws.FnExactLastAnnuity': WHATEVER THE INPUT: true; the input reads as it did. -/
def fnExactLastAnnuitySpec : ChangeSpec := { name := "fnExactLastAnnuity", fn := fun _ => fun
  | [d1, d2, d3, d4, d5, d6] => { results := [.lit (.bool true)], args := [d1, d2, d3, d4, d5, d6] }
  | _ => none }
def fnExactLastAnnuityRow : OpenClaim := { program := "ytklnikaakpebnaa", sum := "d321f223427b59042a561042eb05f3e342df6a05bd47c6fd4ced40069a1fdfdb", func := "loop.example/g01025/laws.FnExactLastAnnuity", spec := "fnExactLastAnnuity", named := ["math/bits.divideError", "math/bits.overflowError"], apart := false }
def FnExactLastAnnuitySaid : Prop := fnExactLastAnnuityRow.holds Try.pinned (OpenSpec.ofChange fnExactLastAnnuitySpec)

/-- ITS FALSE NEIGHBOUR: 'it returns false'. Refute it at one input. -/
def fnExactLastAnnuityWrong : ChangeSpec := { name := "fnExactLastAnnuity", fn := fun _ => fun
  | [d1, d2, d3, d4, d5, d6] => { results := [.lit (.bool false)], args := [d1, d2, d3, d4, d5, d6] }
  | _ => none }
def FnExactLastAnnuityWrongFalsely : Prop := fnExactLastAnnuityRow.holds Try.pinned (OpenSpec.ofChange fnExactLastAnnuityWrong)

/-- 'laws.FnExactWidowYears': WHATEVER THE INPUT: true; the input reads as it did. -/
def fnExactWidowYearsSpec : ChangeSpec := { name := "fnExactWidowYears", fn := fun _ => fun
  | [d1, d2, d3, d4] => { results := [.lit (.bool true)], args := [d1, d2, d3, d4] }
  | _ => none }
def fnExactWidowYearsRow : OpenClaim := { program := "ytklnikaakpebnaa", sum := "d321f223427b59042a561042eb05f3e342df6a05bd47c6fd4ced40069a1fdfdb", func := "loop.example/g01025/laws.FnExactWidowYears", spec := "fnExactWidowYears", recurses := true, apart := false }
def FnExactWidowYearsSaid : Prop := fnExactWidowYearsRow.holds Try.pinned (OpenSpec.ofChange fnExactWidowYearsSpec)

/-- ITS FALSE NEIGHBOUR: 'it returns false'. Refute it at one input. -/
def fnExactWidowYearsWrong : ChangeSpec := { name := "fnExactWidowYears", fn := fun _ => fun
  | [d1, d2, d3, d4] => { results := [.lit (.bool false)], args := [d1, d2, d3, d4] }
  | _ => none }
def FnExactWidowYearsWrongFalsely : Prop := fnExactWidowYearsRow.holds Try.pinned (OpenSpec.ofChange fnExactWidowYearsWrong)

/-- 'laws.FnExactBestLeaving': WHATEVER THE INPUT: true; the input reads as it did. -/
def fnExactBestLeavingSpec : ChangeSpec := { name := "fnExactBestLeaving", fn := fun _ => fun
  | [d1, d2] => { results := [.lit (.bool true)], args := [d1, d2] }
  | _ => none }
def fnExactBestLeavingRow : OpenClaim := { program := "ytklnikaakpebnaa", sum := "d321f223427b59042a561042eb05f3e342df6a05bd47c6fd4ced40069a1fdfdb", func := "loop.example/g01025/laws.FnExactBestLeaving", spec := "fnExactBestLeaving", named := ["math/bits.divideError", "math/bits.overflowError"], apart := false }
def FnExactBestLeavingSaid : Prop := fnExactBestLeavingRow.holds Try.pinned (OpenSpec.ofChange fnExactBestLeavingSpec)

/-- ITS FALSE NEIGHBOUR: 'it returns false'. Refute it at one input. -/
def fnExactBestLeavingWrong : ChangeSpec := { name := "fnExactBestLeaving", fn := fun _ => fun
  | [d1, d2] => { results := [.lit (.bool false)], args := [d1, d2] }
  | _ => none }
def FnExactBestLeavingWrongFalsely : Prop := fnExactBestLeavingRow.holds Try.pinned (OpenSpec.ofChange fnExactBestLeavingWrong)

/-- 'laws.FnExactKeptYears': WHATEVER THE INPUT: true; the input reads as it did. -/
def fnExactKeptYearsSpec : ChangeSpec := { name := "fnExactKeptYears", fn := fun _ => fun
  | [d1, d2, d3] => { results := [.lit (.bool true)], args := [d1, d2, d3] }
  | _ => none }
def fnExactKeptYearsRow : OpenClaim := { program := "ytklnikaakpebnaa", sum := "d321f223427b59042a561042eb05f3e342df6a05bd47c6fd4ced40069a1fdfdb", func := "loop.example/g01025/laws.FnExactKeptYears", spec := "fnExactKeptYears", named := ["math/bits.divideError", "math/bits.overflowError"], apart := false }
def FnExactKeptYearsSaid : Prop := fnExactKeptYearsRow.holds Try.pinned (OpenSpec.ofChange fnExactKeptYearsSpec)

/-- ITS FALSE NEIGHBOUR: 'it returns false'. Refute it at one input. -/
def fnExactKeptYearsWrong : ChangeSpec := { name := "fnExactKeptYears", fn := fun _ => fun
  | [d1, d2, d3] => { results := [.lit (.bool false)], args := [d1, d2, d3] }
  | _ => none }
def FnExactKeptYearsWrongFalsely : Prop := fnExactKeptYearsRow.holds Try.pinned (OpenSpec.ofChange fnExactKeptYearsWrong)

/-- 'laws.FnExactDenominatorAt': WHATEVER THE INPUT: true; the input reads as it did. -/
def fnExactDenominatorAtSpec : ChangeSpec := { name := "fnExactDenominatorAt", fn := fun _ => fun
  | [d1, d2, d3] => { results := [.lit (.bool true)], args := [d1, d2, d3] }
  | _ => none }
def fnExactDenominatorAtRow : OpenClaim := { program := "ytklnikaakpebnaa", sum := "d321f223427b59042a561042eb05f3e342df6a05bd47c6fd4ced40069a1fdfdb", func := "loop.example/g01025/laws.FnExactDenominatorAt", spec := "fnExactDenominatorAt", apart := false }
def FnExactDenominatorAtSaid : Prop := fnExactDenominatorAtRow.holds Try.pinned (OpenSpec.ofChange fnExactDenominatorAtSpec)

/-- ITS FALSE NEIGHBOUR: 'it returns false'. Refute it at one input. -/
def fnExactDenominatorAtWrong : ChangeSpec := { name := "fnExactDenominatorAt", fn := fun _ => fun
  | [d1, d2, d3] => { results := [.lit (.bool false)], args := [d1, d2, d3] }
  | _ => none }
def FnExactDenominatorAtWrongFalsely : Prop := fnExactDenominatorAtRow.holds Try.pinned (OpenSpec.ofChange fnExactDenominatorAtWrong)

/-- 'laws.FnExactIsPortfolio': WHATEVER THE INPUT: true; the input reads as it did. -/
def fnExactIsPortfolioSpec : ChangeSpec := { name := "fnExactIsPortfolio", fn := fun _ => fun
  | [d1, d2] => { results := [.lit (.bool true)], args := [d1, d2] }
  | _ => none }
def fnExactIsPortfolioRow : OpenClaim := { program := "ytklnikaakpebnaa", sum := "d321f223427b59042a561042eb05f3e342df6a05bd47c6fd4ced40069a1fdfdb", func := "loop.example/g01025/laws.FnExactIsPortfolio", spec := "fnExactIsPortfolio", unfollowed := true, recurses := true, apart := false }
def FnExactIsPortfolioSaid : Prop := fnExactIsPortfolioRow.holds Try.pinned (OpenSpec.ofChange fnExactIsPortfolioSpec)

/-- ITS FALSE NEIGHBOUR: 'it returns false'. Refute it at one input. -/
def fnExactIsPortfolioWrong : ChangeSpec := { name := "fnExactIsPortfolio", fn := fun _ => fun
  | [d1, d2] => { results := [.lit (.bool false)], args := [d1, d2] }
  | _ => none }
def FnExactIsPortfolioWrongFalsely : Prop := fnExactIsPortfolioRow.holds Try.pinned (OpenSpec.ofChange fnExactIsPortfolioWrong)

/-- 'laws.FnExactMaturingSums': WHATEVER THE INPUT: true; the input reads as it did. -/
def fnExactMaturingSumsSpec : ChangeSpec := { name := "fnExactMaturingSums", fn := fun _ => fun
  | [d1, d2] => { results := [.lit (.bool true)], args := [d1, d2] }
  | _ => none }
def fnExactMaturingSumsRow : OpenClaim := { program := "ytklnikaakpebnaa", sum := "d321f223427b59042a561042eb05f3e342df6a05bd47c6fd4ced40069a1fdfdb", func := "loop.example/g01025/laws.FnExactMaturingSums", spec := "fnExactMaturingSums", unfollowed := true, recurses := true, apart := false }
def FnExactMaturingSumsSaid : Prop := fnExactMaturingSumsRow.holds Try.pinned (OpenSpec.ofChange fnExactMaturingSumsSpec)

/-- ITS FALSE NEIGHBOUR: 'it returns false'. Refute it at one input. -/
def fnExactMaturingSumsWrong : ChangeSpec := { name := "fnExactMaturingSums", fn := fun _ => fun
  | [d1, d2] => { results := [.lit (.bool false)], args := [d1, d2] }
  | _ => none }
def FnExactMaturingSumsWrongFalsely : Prop := fnExactMaturingSumsRow.holds Try.pinned (OpenSpec.ofChange fnExactMaturingSumsWrong)

/-- 'laws.FnExactSumForPremium': WHATEVER THE INPUT: true; the input reads as it did. -/
def fnExactSumForPremiumSpec : ChangeSpec := { name := "fnExactSumForPremium", fn := fun _ => fun
  | [d1, d2, d3] => { results := [.lit (.bool true)], args := [d1, d2, d3] }
  | _ => none }
def fnExactSumForPremiumRow : OpenClaim := { program := "ytklnikaakpebnaa", sum := "d321f223427b59042a561042eb05f3e342df6a05bd47c6fd4ced40069a1fdfdb", func := "loop.example/g01025/laws.FnExactSumForPremium", spec := "fnExactSumForPremium", named := ["math/bits.divideError", "math/bits.overflowError"], apart := false }
def FnExactSumForPremiumSaid : Prop := fnExactSumForPremiumRow.holds Try.pinned (OpenSpec.ofChange fnExactSumForPremiumSpec)

/-- ITS FALSE NEIGHBOUR: 'it returns false'. Refute it at one input. -/
def fnExactSumForPremiumWrong : ChangeSpec := { name := "fnExactSumForPremium", fn := fun _ => fun
  | [d1, d2, d3] => { results := [.lit (.bool false)], args := [d1, d2, d3] }
  | _ => none }
def FnExactSumForPremiumWrongFalsely : Prop := fnExactSumForPremiumRow.holds Try.pinned (OpenSpec.ofChange fnExactSumForPremiumWrong)

/-- 'laws.FnExactAgePortfolio': WHATEVER THE INPUT: true; the input reads as it did. -/
def fnExactAgePortfolioSpec : ChangeSpec := { name := "fnExactAgePortfolio", fn := fun _ => fun
  | [d1, d2, d3] => { results := [.lit (.bool true)], args := [d1, d2, d3] }
  | _ => none }
def fnExactAgePortfolioRow : OpenClaim := { program := "ytklnikaakpebnaa", sum := "d321f223427b59042a561042eb05f3e342df6a05bd47c6fd4ced40069a1fdfdb", func := "loop.example/g01025/laws.FnExactAgePortfolio", spec := "fnExactAgePortfolio", unfollowed := true, recurses := true, apart := false }
def FnExactAgePortfolioSaid : Prop := fnExactAgePortfolioRow.holds Try.pinned (OpenSpec.ofChange fnExactAgePortfolioSpec)

/-- ITS FALSE NEIGHBOUR: 'it returns false'. Refute it at one input. -/
def fnExactAgePortfolioWrong : ChangeSpec := { name := "fnExactAgePortfolio", fn := fun _ => fun
  | [d1, d2, d3] => { results := [.lit (.bool false)], args := [d1, d2, d3] }
  | _ => none }
def FnExactAgePortfolioWrongFalsely : Prop := fnExactAgePortfolioRow.holds Try.pinned (OpenSpec.ofChange fnExactAgePortfolioWrong)

/-- 'laws.FnExactGainAt': WHATEVER THE INPUT: true; the input reads as it did. -/
def fnExactGainAtSpec : ChangeSpec := { name := "fnExactGainAt", fn := fun _ => fun
  | [d1, d2, d3] => { results := [.lit (.bool true)], args := [d1, d2, d3] }
  | _ => none }
def fnExactGainAtRow : OpenClaim := { program := "ytklnikaakpebnaa", sum := "d321f223427b59042a561042eb05f3e342df6a05bd47c6fd4ced40069a1fdfdb", func := "loop.example/g01025/laws.FnExactGainAt", spec := "fnExactGainAt", named := ["math/bits.divideError", "math/bits.overflowError"], apart := false }
def FnExactGainAtSaid : Prop := fnExactGainAtRow.holds Try.pinned (OpenSpec.ofChange fnExactGainAtSpec)

/-- ITS FALSE NEIGHBOUR: 'it returns false'. Refute it at one input. -/
def fnExactGainAtWrong : ChangeSpec := { name := "fnExactGainAt", fn := fun _ => fun
  | [d1, d2, d3] => { results := [.lit (.bool false)], args := [d1, d2, d3] }
  | _ => none }
def FnExactGainAtWrongFalsely : Prop := fnExactGainAtRow.holds Try.pinned (OpenSpec.ofChange fnExactGainAtWrong)

/-- 'laws.FnExactExpectedClaims': WHATEVER THE INPUT: true; the input reads as it did. -/
def fnExactExpectedClaimsSpec : ChangeSpec := { name := "fnExactExpectedClaims", fn := fun _ => fun
  | [d1, d2] => { results := [.lit (.bool true)], args := [d1, d2] }
  | _ => none }
def fnExactExpectedClaimsRow : OpenClaim := { program := "ytklnikaakpebnaa", sum := "d321f223427b59042a561042eb05f3e342df6a05bd47c6fd4ced40069a1fdfdb", func := "loop.example/g01025/laws.FnExactExpectedClaims", spec := "fnExactExpectedClaims", unfollowed := true, recurses := true, named := ["math/bits.divideError", "math/bits.overflowError"], apart := false }
def FnExactExpectedClaimsSaid : Prop := fnExactExpectedClaimsRow.holds Try.pinned (OpenSpec.ofChange fnExactExpectedClaimsSpec)

/-- ITS FALSE NEIGHBOUR: 'it returns false'. Refute it at one input. -/
def fnExactExpectedClaimsWrong : ChangeSpec := { name := "fnExactExpectedClaims", fn := fun _ => fun
  | [d1, d2] => { results := [.lit (.bool false)], args := [d1, d2] }
  | _ => none }
def FnExactExpectedClaimsWrongFalsely : Prop := fnExactExpectedClaimsRow.holds Try.pinned (OpenSpec.ofChange fnExactExpectedClaimsWrong)

/-- 'laws.FnExactForwardReserve': WHATEVER THE INPUT: true; the input reads as it did. -/
def fnExactForwardReserveSpec : ChangeSpec := { name := "fnExactForwardReserve", fn := fun _ => fun
  | [d1, d2, d3] => { results := [.lit (.bool true)], args := [d1, d2, d3] }
  | _ => none }
def fnExactForwardReserveRow : OpenClaim := { program := "ytklnikaakpebnaa", sum := "d321f223427b59042a561042eb05f3e342df6a05bd47c6fd4ced40069a1fdfdb", func := "loop.example/g01025/laws.FnExactForwardReserve", spec := "fnExactForwardReserve", named := ["math/bits.divideError", "math/bits.overflowError"], apart := false }
def FnExactForwardReserveSaid : Prop := fnExactForwardReserveRow.holds Try.pinned (OpenSpec.ofChange fnExactForwardReserveSpec)

/-- ITS FALSE NEIGHBOUR: 'it returns false'. Refute it at one input. -/
def fnExactForwardReserveWrong : ChangeSpec := { name := "fnExactForwardReserve", fn := fun _ => fun
  | [d1, d2, d3] => { results := [.lit (.bool false)], args := [d1, d2, d3] }
  | _ => none }
def FnExactForwardReserveWrongFalsely : Prop := fnExactForwardReserveRow.holds Try.pinned (OpenSpec.ofChange fnExactForwardReserveWrong)

/-- 'laws.FnExactBackwardReserve': WHATEVER THE INPUT: true; the input reads as it did. -/
def fnExactBackwardReserveSpec : ChangeSpec := { name := "fnExactBackwardReserve", fn := fun _ => fun
  | [d1, d2, d3] => { results := [.lit (.bool true)], args := [d1, d2, d3] }
  | _ => none }
def fnExactBackwardReserveRow : OpenClaim := { program := "ytklnikaakpebnaa", sum := "d321f223427b59042a561042eb05f3e342df6a05bd47c6fd4ced40069a1fdfdb", func := "loop.example/g01025/laws.FnExactBackwardReserve", spec := "fnExactBackwardReserve", named := ["math/bits.divideError", "math/bits.overflowError"], apart := false }
def FnExactBackwardReserveSaid : Prop := fnExactBackwardReserveRow.holds Try.pinned (OpenSpec.ofChange fnExactBackwardReserveSpec)

/-- ITS FALSE NEIGHBOUR: 'it returns false'. Refute it at one input. -/
def fnExactBackwardReserveWrong : ChangeSpec := { name := "fnExactBackwardReserve", fn := fun _ => fun
  | [d1, d2, d3] => { results := [.lit (.bool false)], args := [d1, d2, d3] }
  | _ => none }
def FnExactBackwardReserveWrongFalsely : Prop := fnExactBackwardReserveRow.holds Try.pinned (OpenSpec.ofChange fnExactBackwardReserveWrong)

/-- 'laws.FnExactReserveList': WHATEVER THE INPUT: true; the input reads as it did. -/
def fnExactReserveListSpec : ChangeSpec := { name := "fnExactReserveList", fn := fun _ => fun
  | [d1, d2] => { results := [.lit (.bool true)], args := [d1, d2] }
  | _ => none }
def fnExactReserveListRow : OpenClaim := { program := "ytklnikaakpebnaa", sum := "d321f223427b59042a561042eb05f3e342df6a05bd47c6fd4ced40069a1fdfdb", func := "loop.example/g01025/laws.FnExactReserveList", spec := "fnExactReserveList", named := ["math/bits.divideError", "math/bits.overflowError"], apart := false }
def FnExactReserveListSaid : Prop := fnExactReserveListRow.holds Try.pinned (OpenSpec.ofChange fnExactReserveListSpec)

/-- ITS FALSE NEIGHBOUR: 'it returns false'. Refute it at one input. -/
def fnExactReserveListWrong : ChangeSpec := { name := "fnExactReserveList", fn := fun _ => fun
  | [d1, d2] => { results := [.lit (.bool false)], args := [d1, d2] }
  | _ => none }
def FnExactReserveListWrongFalsely : Prop := fnExactReserveListRow.holds Try.pinned (OpenSpec.ofChange fnExactReserveListWrong)

/-- 'laws.FnExactGreatestReserve': WHATEVER THE INPUT: true; the input reads as it did. -/
def fnExactGreatestReserveSpec : ChangeSpec := { name := "fnExactGreatestReserve", fn := fun _ => fun
  | [d1, d2] => { results := [.lit (.bool true)], args := [d1, d2] }
  | _ => none }
def fnExactGreatestReserveRow : OpenClaim := { program := "ytklnikaakpebnaa", sum := "d321f223427b59042a561042eb05f3e342df6a05bd47c6fd4ced40069a1fdfdb", func := "loop.example/g01025/laws.FnExactGreatestReserve", spec := "fnExactGreatestReserve", named := ["math/bits.divideError", "math/bits.overflowError"], apart := false }
def FnExactGreatestReserveSaid : Prop := fnExactGreatestReserveRow.holds Try.pinned (OpenSpec.ofChange fnExactGreatestReserveSpec)

/-- ITS FALSE NEIGHBOUR: 'it returns false'. Refute it at one input. -/
def fnExactGreatestReserveWrong : ChangeSpec := { name := "fnExactGreatestReserve", fn := fun _ => fun
  | [d1, d2] => { results := [.lit (.bool false)], args := [d1, d2] }
  | _ => none }
def FnExactGreatestReserveWrongFalsely : Prop := fnExactGreatestReserveRow.holds Try.pinned (OpenSpec.ofChange fnExactGreatestReserveWrong)

/-- 'laws.FnExactLeavingLoss': WHATEVER THE INPUT: true; the input reads as it did. -/
def fnExactLeavingLossSpec : ChangeSpec := { name := "fnExactLeavingLoss", fn := fun _ => fun
  | [d1, d2, d3] => { results := [.lit (.bool true)], args := [d1, d2, d3] }
  | _ => none }
def fnExactLeavingLossRow : OpenClaim := { program := "ytklnikaakpebnaa", sum := "d321f223427b59042a561042eb05f3e342df6a05bd47c6fd4ced40069a1fdfdb", func := "loop.example/g01025/laws.FnExactLeavingLoss", spec := "fnExactLeavingLoss", named := ["math/bits.divideError", "math/bits.overflowError"], apart := false }
def FnExactLeavingLossSaid : Prop := fnExactLeavingLossRow.holds Try.pinned (OpenSpec.ofChange fnExactLeavingLossSpec)

/-- ITS FALSE NEIGHBOUR: 'it returns false'. Refute it at one input. -/
def fnExactLeavingLossWrong : ChangeSpec := { name := "fnExactLeavingLoss", fn := fun _ => fun
  | [d1, d2, d3] => { results := [.lit (.bool false)], args := [d1, d2, d3] }
  | _ => none }
def FnExactLeavingLossWrongFalsely : Prop := fnExactLeavingLossRow.holds Try.pinned (OpenSpec.ofChange fnExactLeavingLossWrong)

/-- 'laws.FnExactSurrenderValue': WHATEVER THE INPUT: true; the input reads as it did. -/
def fnExactSurrenderValueSpec : ChangeSpec := { name := "fnExactSurrenderValue", fn := fun _ => fun
  | [d1, d2, d3] => { results := [.lit (.bool true)], args := [d1, d2, d3] }
  | _ => none }
def fnExactSurrenderValueRow : OpenClaim := { program := "ytklnikaakpebnaa", sum := "d321f223427b59042a561042eb05f3e342df6a05bd47c6fd4ced40069a1fdfdb", func := "loop.example/g01025/laws.FnExactSurrenderValue", spec := "fnExactSurrenderValue", named := ["math/bits.divideError", "math/bits.overflowError"], apart := false }
def FnExactSurrenderValueSaid : Prop := fnExactSurrenderValueRow.holds Try.pinned (OpenSpec.ofChange fnExactSurrenderValueSpec)

/-- ITS FALSE NEIGHBOUR: 'it returns false'. Refute it at one input. -/
def fnExactSurrenderValueWrong : ChangeSpec := { name := "fnExactSurrenderValue", fn := fun _ => fun
  | [d1, d2, d3] => { results := [.lit (.bool false)], args := [d1, d2, d3] }
  | _ => none }
def FnExactSurrenderValueWrongFalsely : Prop := fnExactSurrenderValueRow.holds Try.pinned (OpenSpec.ofChange fnExactSurrenderValueWrong)

/-- 'laws.FnExactLoanLimit': WHATEVER THE INPUT: true; the input reads as it did. -/
def fnExactLoanLimitSpec : ChangeSpec := { name := "fnExactLoanLimit", fn := fun _ => fun
  | [d1, d2, d3] => { results := [.lit (.bool true)], args := [d1, d2, d3] }
  | _ => none }
def fnExactLoanLimitRow : OpenClaim := { program := "ytklnikaakpebnaa", sum := "d321f223427b59042a561042eb05f3e342df6a05bd47c6fd4ced40069a1fdfdb", func := "loop.example/g01025/laws.FnExactLoanLimit", spec := "fnExactLoanLimit", named := ["math/bits.divideError", "math/bits.overflowError"], apart := false }
def FnExactLoanLimitSaid : Prop := fnExactLoanLimitRow.holds Try.pinned (OpenSpec.ofChange fnExactLoanLimitSpec)

/-- ITS FALSE NEIGHBOUR: 'it returns false'. Refute it at one input. -/
def fnExactLoanLimitWrong : ChangeSpec := { name := "fnExactLoanLimit", fn := fun _ => fun
  | [d1, d2, d3] => { results := [.lit (.bool false)], args := [d1, d2, d3] }
  | _ => none }
def FnExactLoanLimitWrongFalsely : Prop := fnExactLoanLimitRow.holds Try.pinned (OpenSpec.ofChange fnExactLoanLimitWrong)

/-- 'laws.FnExactRiskAt': WHATEVER THE INPUT: true; the input reads as it did. -/
def fnExactRiskAtSpec : ChangeSpec := { name := "fnExactRiskAt", fn := fun _ => fun
  | [d1, d2, d3] => { results := [.lit (.bool true)], args := [d1, d2, d3] }
  | _ => none }
def fnExactRiskAtRow : OpenClaim := { program := "ytklnikaakpebnaa", sum := "d321f223427b59042a561042eb05f3e342df6a05bd47c6fd4ced40069a1fdfdb", func := "loop.example/g01025/laws.FnExactRiskAt", spec := "fnExactRiskAt", named := ["math/bits.divideError", "math/bits.overflowError"], apart := false }
def FnExactRiskAtSaid : Prop := fnExactRiskAtRow.holds Try.pinned (OpenSpec.ofChange fnExactRiskAtSpec)

/-- ITS FALSE NEIGHBOUR: 'it returns false'. Refute it at one input. -/
def fnExactRiskAtWrong : ChangeSpec := { name := "fnExactRiskAt", fn := fun _ => fun
  | [d1, d2, d3] => { results := [.lit (.bool false)], args := [d1, d2, d3] }
  | _ => none }
def FnExactRiskAtWrongFalsely : Prop := fnExactRiskAtRow.holds Try.pinned (OpenSpec.ofChange fnExactRiskAtWrong)

/-- 'laws.FnExactPaidUpSum': WHATEVER THE INPUT: true; the input reads as it did. -/
def fnExactPaidUpSumSpec : ChangeSpec := { name := "fnExactPaidUpSum", fn := fun _ => fun
  | [d1, d2, d3] => { results := [.lit (.bool true)], args := [d1, d2, d3] }
  | _ => none }
def fnExactPaidUpSumRow : OpenClaim := { program := "ytklnikaakpebnaa", sum := "d321f223427b59042a561042eb05f3e342df6a05bd47c6fd4ced40069a1fdfdb", func := "loop.example/g01025/laws.FnExactPaidUpSum", spec := "fnExactPaidUpSum", named := ["math/bits.divideError", "math/bits.overflowError"], apart := false }
def FnExactPaidUpSumSaid : Prop := fnExactPaidUpSumRow.holds Try.pinned (OpenSpec.ofChange fnExactPaidUpSumSpec)

/-- ITS FALSE NEIGHBOUR: 'it returns false'. Refute it at one input. -/
def fnExactPaidUpSumWrong : ChangeSpec := { name := "fnExactPaidUpSum", fn := fun _ => fun
  | [d1, d2, d3] => { results := [.lit (.bool false)], args := [d1, d2, d3] }
  | _ => none }
def FnExactPaidUpSumWrongFalsely : Prop := fnExactPaidUpSumRow.holds Try.pinned (OpenSpec.ofChange fnExactPaidUpSumWrong)

/-- 'laws.FnSurplus': WHATEVER THE INPUT: true; the input reads as it did. -/
def fnSurplusSpec : ChangeSpec := { name := "fnSurplus", fn := fun _ => fun
  | [d] => { results := [.lit (.bool true)], args := [d] }
  | _ => none }
def fnSurplusRow : OpenClaim := { program := "ytklnikaakpebnaa", sum := "d321f223427b59042a561042eb05f3e342df6a05bd47c6fd4ced40069a1fdfdb", func := "loop.example/g01025/laws.FnSurplus", spec := "fnSurplus", unfollowed := true, recurses := true, apart := false }
def FnSurplusSaid : Prop := fnSurplusRow.holds Try.pinned (OpenSpec.ofChange fnSurplusSpec)

/-- ITS FALSE NEIGHBOUR: 'it returns false'. Refute it at one input. -/
def fnSurplusWrong : ChangeSpec := { name := "fnSurplus", fn := fun _ => fun
  | [d] => { results := [.lit (.bool false)], args := [d] }
  | _ => none }
def FnSurplusWrongFalsely : Prop := fnSurplusRow.holds Try.pinned (OpenSpec.ofChange fnSurplusWrong)

/-- 'laws.FnExpected': WHATEVER THE INPUT: true; the input reads as it did. -/
def fnExpectedSpec : ChangeSpec := { name := "fnExpected", fn := fun _ => fun
  | [d] => { results := [.lit (.bool true)], args := [d] }
  | _ => none }
def fnExpectedRow : OpenClaim := { program := "ytklnikaakpebnaa", sum := "d321f223427b59042a561042eb05f3e342df6a05bd47c6fd4ced40069a1fdfdb", func := "loop.example/g01025/laws.FnExpected", spec := "fnExpected", recurses := true, apart := false }
def FnExpectedSaid : Prop := fnExpectedRow.holds Try.pinned (OpenSpec.ofChange fnExpectedSpec)

/-- ITS FALSE NEIGHBOUR: 'it returns false'. Refute it at one input. -/
def fnExpectedWrong : ChangeSpec := { name := "fnExpected", fn := fun _ => fun
  | [d] => { results := [.lit (.bool false)], args := [d] }
  | _ => none }
def FnExpectedWrongFalsely : Prop := fnExpectedRow.holds Try.pinned (OpenSpec.ofChange fnExpectedWrong)

/-- 'laws.FnSurvival': WHATEVER THE INPUT: true; the input reads as it did. -/
def fnSurvivalSpec : ChangeSpec := { name := "fnSurvival", fn := fun _ => fun
  | [d] => { results := [.lit (.bool true)], args := [d] }
  | _ => none }
def fnSurvivalRow : OpenClaim := { program := "ytklnikaakpebnaa", sum := "d321f223427b59042a561042eb05f3e342df6a05bd47c6fd4ced40069a1fdfdb", func := "loop.example/g01025/laws.FnSurvival", spec := "fnSurvival", recurses := true, apart := false }
def FnSurvivalSaid : Prop := fnSurvivalRow.holds Try.pinned (OpenSpec.ofChange fnSurvivalSpec)

/-- ITS FALSE NEIGHBOUR: 'it returns false'. Refute it at one input. -/
def fnSurvivalWrong : ChangeSpec := { name := "fnSurvival", fn := fun _ => fun
  | [d] => { results := [.lit (.bool false)], args := [d] }
  | _ => none }
def FnSurvivalWrongFalsely : Prop := fnSurvivalRow.holds Try.pinned (OpenSpec.ofChange fnSurvivalWrong)

/-- 'laws.FnJoint': WHATEVER THE INPUT: true; the input reads as it did. -/
def fnJointSpec : ChangeSpec := { name := "fnJoint", fn := fun _ => fun
  | [d] => { results := [.lit (.bool true)], args := [d] }
  | _ => none }
def fnJointRow : OpenClaim := { program := "ytklnikaakpebnaa", sum := "d321f223427b59042a561042eb05f3e342df6a05bd47c6fd4ced40069a1fdfdb", func := "loop.example/g01025/laws.FnJoint", spec := "fnJoint", recurses := true, apart := false }
def FnJointSaid : Prop := fnJointRow.holds Try.pinned (OpenSpec.ofChange fnJointSpec)

/-- ITS FALSE NEIGHBOUR: 'it returns false'. Refute it at one input. -/
def fnJointWrong : ChangeSpec := { name := "fnJoint", fn := fun _ => fun
  | [d] => { results := [.lit (.bool false)], args := [d] }
  | _ => none }
def FnJointWrongFalsely : Prop := fnJointRow.holds Try.pinned (OpenSpec.ofChange fnJointWrong)

/-- 'laws.FnColumns': WHATEVER THE INPUT: true; the input reads as it did. -/
def fnColumnsSpec : ChangeSpec := { name := "fnColumns", fn := fun _ => fun
  | [d] => { results := [.lit (.bool true)], args := [d] }
  | _ => none }
def fnColumnsRow : OpenClaim := { program := "ytklnikaakpebnaa", sum := "d321f223427b59042a561042eb05f3e342df6a05bd47c6fd4ced40069a1fdfdb", func := "loop.example/g01025/laws.FnColumns", spec := "fnColumns", unfollowed := true, recurses := true, apart := false }
def FnColumnsSaid : Prop := fnColumnsRow.holds Try.pinned (OpenSpec.ofChange fnColumnsSpec)

/-- ITS FALSE NEIGHBOUR: 'it returns false'. Refute it at one input. -/
def fnColumnsWrong : ChangeSpec := { name := "fnColumns", fn := fun _ => fun
  | [d] => { results := [.lit (.bool false)], args := [d] }
  | _ => none }
def FnColumnsWrongFalsely : Prop := fnColumnsRow.holds Try.pinned (OpenSpec.ofChange fnColumnsWrong)

/-- 'laws.FnPolicies': WHATEVER THE INPUT: true; the input reads as it did. -/
def fnPoliciesSpec : ChangeSpec := { name := "fnPolicies", fn := fun _ => fun
  | [d] => { results := [.lit (.bool true)], args := [d] }
  | _ => none }
def fnPoliciesRow : OpenClaim := { program := "ytklnikaakpebnaa", sum := "d321f223427b59042a561042eb05f3e342df6a05bd47c6fd4ced40069a1fdfdb", func := "loop.example/g01025/laws.FnPolicies", spec := "fnPolicies", named := ["math/bits.divideError", "math/bits.overflowError"], apart := false }
def FnPoliciesSaid : Prop := fnPoliciesRow.holds Try.pinned (OpenSpec.ofChange fnPoliciesSpec)

/-- ITS FALSE NEIGHBOUR: 'it returns false'. Refute it at one input. -/
def fnPoliciesWrong : ChangeSpec := { name := "fnPolicies", fn := fun _ => fun
  | [d] => { results := [.lit (.bool false)], args := [d] }
  | _ => none }
def FnPoliciesWrongFalsely : Prop := fnPoliciesRow.holds Try.pinned (OpenSpec.ofChange fnPoliciesWrong)

/-- 'laws.FnAnnuities': WHATEVER THE INPUT: true; the input reads as it did. -/
def fnAnnuitiesSpec : ChangeSpec := { name := "fnAnnuities", fn := fun _ => fun
  | [d] => { results := [.lit (.bool true)], args := [d] }
  | _ => none }
def fnAnnuitiesRow : OpenClaim := { program := "ytklnikaakpebnaa", sum := "d321f223427b59042a561042eb05f3e342df6a05bd47c6fd4ced40069a1fdfdb", func := "loop.example/g01025/laws.FnAnnuities", spec := "fnAnnuities", named := ["math/bits.divideError", "math/bits.overflowError"], apart := false }
def FnAnnuitiesSaid : Prop := fnAnnuitiesRow.holds Try.pinned (OpenSpec.ofChange fnAnnuitiesSpec)

/-- ITS FALSE NEIGHBOUR: 'it returns false'. Refute it at one input. -/
def fnAnnuitiesWrong : ChangeSpec := { name := "fnAnnuities", fn := fun _ => fun
  | [d] => { results := [.lit (.bool false)], args := [d] }
  | _ => none }
def FnAnnuitiesWrongFalsely : Prop := fnAnnuitiesRow.holds Try.pinned (OpenSpec.ofChange fnAnnuitiesWrong)

/-- 'laws.FnAmounts': WHATEVER THE INPUT: true; the input reads as it did. -/
def fnAmountsSpec : ChangeSpec := { name := "fnAmounts", fn := fun _ => fun
  | [d] => { results := [.lit (.bool true)], args := [d] }
  | _ => none }
def fnAmountsRow : OpenClaim := { program := "ytklnikaakpebnaa", sum := "d321f223427b59042a561042eb05f3e342df6a05bd47c6fd4ced40069a1fdfdb", func := "loop.example/g01025/laws.FnAmounts", spec := "fnAmounts", named := ["math/bits.divideError", "math/bits.overflowError"], apart := false }
def FnAmountsSaid : Prop := fnAmountsRow.holds Try.pinned (OpenSpec.ofChange fnAmountsSpec)

/-- ITS FALSE NEIGHBOUR: 'it returns false'. Refute it at one input. -/
def fnAmountsWrong : ChangeSpec := { name := "fnAmounts", fn := fun _ => fun
  | [d] => { results := [.lit (.bool false)], args := [d] }
  | _ => none }
def FnAmountsWrongFalsely : Prop := fnAmountsRow.holds Try.pinned (OpenSpec.ofChange fnAmountsWrong)

/-- 'laws.FnAssurances': WHATEVER THE INPUT: true; the input reads as it did. -/
def fnAssurancesSpec : ChangeSpec := { name := "fnAssurances", fn := fun _ => fun
  | [d] => { results := [.lit (.bool true)], args := [d] }
  | _ => none }
def fnAssurancesRow : OpenClaim := { program := "ytklnikaakpebnaa", sum := "d321f223427b59042a561042eb05f3e342df6a05bd47c6fd4ced40069a1fdfdb", func := "loop.example/g01025/laws.FnAssurances", spec := "fnAssurances", named := ["math/bits.divideError", "math/bits.overflowError"], apart := false }
def FnAssurancesSaid : Prop := fnAssurancesRow.holds Try.pinned (OpenSpec.ofChange fnAssurancesSpec)

/-- ITS FALSE NEIGHBOUR: 'it returns false'. Refute it at one input. -/
def fnAssurancesWrong : ChangeSpec := { name := "fnAssurances", fn := fun _ => fun
  | [d] => { results := [.lit (.bool false)], args := [d] }
  | _ => none }
def FnAssurancesWrongFalsely : Prop := fnAssurancesRow.holds Try.pinned (OpenSpec.ofChange fnAssurancesWrong)

/-- 'laws.FnSumsFor': WHATEVER THE INPUT: true; the input reads as it did. -/
def fnSumsForSpec : ChangeSpec := { name := "fnSumsFor", fn := fun _ => fun
  | [d] => { results := [.lit (.bool true)], args := [d] }
  | _ => none }
def fnSumsForRow : OpenClaim := { program := "ytklnikaakpebnaa", sum := "d321f223427b59042a561042eb05f3e342df6a05bd47c6fd4ced40069a1fdfdb", func := "loop.example/g01025/laws.FnSumsFor", spec := "fnSumsFor", named := ["math/bits.divideError", "math/bits.overflowError"], apart := false }
def FnSumsForSaid : Prop := fnSumsForRow.holds Try.pinned (OpenSpec.ofChange fnSumsForSpec)

/-- ITS FALSE NEIGHBOUR: 'it returns false'. Refute it at one input. -/
def fnSumsForWrong : ChangeSpec := { name := "fnSumsFor", fn := fun _ => fun
  | [d] => { results := [.lit (.bool false)], args := [d] }
  | _ => none }
def FnSumsForWrongFalsely : Prop := fnSumsForRow.holds Try.pinned (OpenSpec.ofChange fnSumsForWrong)

/-- 'laws.FnWidows': WHATEVER THE INPUT: true; the input reads as it did. -/
def fnWidowsSpec : ChangeSpec := { name := "fnWidows", fn := fun _ => fun
  | [d] => { results := [.lit (.bool true)], args := [d] }
  | _ => none }
def fnWidowsRow : OpenClaim := { program := "ytklnikaakpebnaa", sum := "d321f223427b59042a561042eb05f3e342df6a05bd47c6fd4ced40069a1fdfdb", func := "loop.example/g01025/laws.FnWidows", spec := "fnWidows", recurses := true, named := ["math/bits.divideError", "math/bits.overflowError"], apart := false }
def FnWidowsSaid : Prop := fnWidowsRow.holds Try.pinned (OpenSpec.ofChange fnWidowsSpec)

/-- ITS FALSE NEIGHBOUR: 'it returns false'. Refute it at one input. -/
def fnWidowsWrong : ChangeSpec := { name := "fnWidows", fn := fun _ => fun
  | [d] => { results := [.lit (.bool false)], args := [d] }
  | _ => none }
def FnWidowsWrongFalsely : Prop := fnWidowsRow.holds Try.pinned (OpenSpec.ofChange fnWidowsWrong)

/- THE SECOND FORM. 'bulk': how many values and letters a reading holds, each counted each time it is reached (what is shared counts as often as it is met; a slice's spare places count too). A statement '..UptoSaid' is the law's where the arguments, and the package variables that the reading takes, are together of bulk at most 1048576: NARROWER than '..Said'. Prove '..Said' where nothing that the law and all that it calls make is longer than what came in: it says more and counts as full. Else prove '..UptoSaid'. A law counts once. -/
mutual
def uptoBulk {H : Type} : DataW H → Nat
  | .lit (.string bytes) => bytes.length + 1
  | .lit _ => 1
  | .nil => 1
  | .ptr d => uptoBulk d + 1
  | .slice elems spare => uptoBulkAll elems + uptoBulkAll spare + 1
  | .agg parts => uptoBulkAll parts + 1
  | .iface _ d => uptoBulk d + 1
  | .map entries => uptoBulkEntries entries + 1
  | .held _ => 1
def uptoBulkAll {H : Type} : List (DataW H) → Nat
  | [] => 0
  | d :: r => uptoBulk d + uptoBulkAll r
def uptoBulkEntries {H : Type} : List (Lit × DataW H) → Nat
  | [] => 0
  | x :: r => uptoBulkEntry x + uptoBulkEntries r
def uptoBulkEntry {H : Type} : Lit × DataW H → Nat
  | (.string bytes, d) => bytes.length + uptoBulk d + 1
  | (_, d) => uptoBulk d + 1
 end
def uptoSmall : (H : Type) → List (DataW H) → Bool := fun _ ds => decide (uptoBulkAll ds ≤ 1048576)
def OpenSpec.upto (s : _root_.Go.ChangeSpec) : _root_.Go.OpenSpec := { _root_.Go.OpenSpec.ofChange s with cond := some uptoSmall }

/-- 'laws.FnExactJointAnnuity', WHERE WHAT IT READS IS OF BULK AT MOST 1048576: true; the input reads as it did. -/
def fnExactJointAnnuityUptoRow : OpenClaim := { program := "ytklnikaakpebnaa", sum := "d321f223427b59042a561042eb05f3e342df6a05bd47c6fd4ced40069a1fdfdb", func := "loop.example/g01025/laws.FnExactJointAnnuity", spec := "fnExactJointAnnuity", named := ["math/bits.divideError", "math/bits.overflowError"], apart := false, narrowed := true }
def FnExactJointAnnuityUptoSaid : Prop := fnExactJointAnnuityUptoRow.holds Try.pinned (OpenSpec.upto fnExactJointAnnuitySpec)

/-- 'laws.FnExactWidowAnnuity', WHERE WHAT IT READS IS OF BULK AT MOST 1048576: true; the input reads as it did. -/
def fnExactWidowAnnuityUptoRow : OpenClaim := { program := "ytklnikaakpebnaa", sum := "d321f223427b59042a561042eb05f3e342df6a05bd47c6fd4ced40069a1fdfdb", func := "loop.example/g01025/laws.FnExactWidowAnnuity", spec := "fnExactWidowAnnuity", named := ["math/bits.divideError", "math/bits.overflowError"], apart := false, narrowed := true }
def FnExactWidowAnnuityUptoSaid : Prop := fnExactWidowAnnuityUptoRow.holds Try.pinned (OpenSpec.upto fnExactWidowAnnuitySpec)

/-- 'laws.FnExactLastAnnuity', WHERE WHAT IT READS IS OF BULK AT MOST 1048576: true; the input reads as it did. -/
def fnExactLastAnnuityUptoRow : OpenClaim := { program := "ytklnikaakpebnaa", sum := "d321f223427b59042a561042eb05f3e342df6a05bd47c6fd4ced40069a1fdfdb", func := "loop.example/g01025/laws.FnExactLastAnnuity", spec := "fnExactLastAnnuity", named := ["math/bits.divideError", "math/bits.overflowError"], apart := false, narrowed := true }
def FnExactLastAnnuityUptoSaid : Prop := fnExactLastAnnuityUptoRow.holds Try.pinned (OpenSpec.upto fnExactLastAnnuitySpec)

/-- 'laws.FnExactWidowYears', WHERE WHAT IT READS IS OF BULK AT MOST 1048576: true; the input reads as it did. -/
def fnExactWidowYearsUptoRow : OpenClaim := { program := "ytklnikaakpebnaa", sum := "d321f223427b59042a561042eb05f3e342df6a05bd47c6fd4ced40069a1fdfdb", func := "loop.example/g01025/laws.FnExactWidowYears", spec := "fnExactWidowYears", recurses := true, apart := false, narrowed := true }
def FnExactWidowYearsUptoSaid : Prop := fnExactWidowYearsUptoRow.holds Try.pinned (OpenSpec.upto fnExactWidowYearsSpec)

/-- 'laws.FnExactBestLeaving', WHERE WHAT IT READS IS OF BULK AT MOST 1048576: true; the input reads as it did. -/
def fnExactBestLeavingUptoRow : OpenClaim := { program := "ytklnikaakpebnaa", sum := "d321f223427b59042a561042eb05f3e342df6a05bd47c6fd4ced40069a1fdfdb", func := "loop.example/g01025/laws.FnExactBestLeaving", spec := "fnExactBestLeaving", named := ["math/bits.divideError", "math/bits.overflowError"], apart := false, narrowed := true }
def FnExactBestLeavingUptoSaid : Prop := fnExactBestLeavingUptoRow.holds Try.pinned (OpenSpec.upto fnExactBestLeavingSpec)

/-- 'laws.FnExactKeptYears', WHERE WHAT IT READS IS OF BULK AT MOST 1048576: true; the input reads as it did. -/
def fnExactKeptYearsUptoRow : OpenClaim := { program := "ytklnikaakpebnaa", sum := "d321f223427b59042a561042eb05f3e342df6a05bd47c6fd4ced40069a1fdfdb", func := "loop.example/g01025/laws.FnExactKeptYears", spec := "fnExactKeptYears", named := ["math/bits.divideError", "math/bits.overflowError"], apart := false, narrowed := true }
def FnExactKeptYearsUptoSaid : Prop := fnExactKeptYearsUptoRow.holds Try.pinned (OpenSpec.upto fnExactKeptYearsSpec)

/-- 'laws.FnExactDenominatorAt', WHERE WHAT IT READS IS OF BULK AT MOST 1048576: true; the input reads as it did. -/
def fnExactDenominatorAtUptoRow : OpenClaim := { program := "ytklnikaakpebnaa", sum := "d321f223427b59042a561042eb05f3e342df6a05bd47c6fd4ced40069a1fdfdb", func := "loop.example/g01025/laws.FnExactDenominatorAt", spec := "fnExactDenominatorAt", apart := false, narrowed := true }
def FnExactDenominatorAtUptoSaid : Prop := fnExactDenominatorAtUptoRow.holds Try.pinned (OpenSpec.upto fnExactDenominatorAtSpec)

/-- 'laws.FnExactIsPortfolio', WHERE WHAT IT READS IS OF BULK AT MOST 1048576: true; the input reads as it did. -/
def fnExactIsPortfolioUptoRow : OpenClaim := { program := "ytklnikaakpebnaa", sum := "d321f223427b59042a561042eb05f3e342df6a05bd47c6fd4ced40069a1fdfdb", func := "loop.example/g01025/laws.FnExactIsPortfolio", spec := "fnExactIsPortfolio", unfollowed := true, recurses := true, apart := false, narrowed := true }
def FnExactIsPortfolioUptoSaid : Prop := fnExactIsPortfolioUptoRow.holds Try.pinned (OpenSpec.upto fnExactIsPortfolioSpec)

/-- 'laws.FnExactMaturingSums', WHERE WHAT IT READS IS OF BULK AT MOST 1048576: true; the input reads as it did. -/
def fnExactMaturingSumsUptoRow : OpenClaim := { program := "ytklnikaakpebnaa", sum := "d321f223427b59042a561042eb05f3e342df6a05bd47c6fd4ced40069a1fdfdb", func := "loop.example/g01025/laws.FnExactMaturingSums", spec := "fnExactMaturingSums", unfollowed := true, recurses := true, apart := false, narrowed := true }
def FnExactMaturingSumsUptoSaid : Prop := fnExactMaturingSumsUptoRow.holds Try.pinned (OpenSpec.upto fnExactMaturingSumsSpec)

/-- 'laws.FnExactSumForPremium', WHERE WHAT IT READS IS OF BULK AT MOST 1048576: true; the input reads as it did. -/
def fnExactSumForPremiumUptoRow : OpenClaim := { program := "ytklnikaakpebnaa", sum := "d321f223427b59042a561042eb05f3e342df6a05bd47c6fd4ced40069a1fdfdb", func := "loop.example/g01025/laws.FnExactSumForPremium", spec := "fnExactSumForPremium", named := ["math/bits.divideError", "math/bits.overflowError"], apart := false, narrowed := true }
def FnExactSumForPremiumUptoSaid : Prop := fnExactSumForPremiumUptoRow.holds Try.pinned (OpenSpec.upto fnExactSumForPremiumSpec)

/-- 'laws.FnExactAgePortfolio', WHERE WHAT IT READS IS OF BULK AT MOST 1048576: true; the input reads as it did. -/
def fnExactAgePortfolioUptoRow : OpenClaim := { program := "ytklnikaakpebnaa", sum := "d321f223427b59042a561042eb05f3e342df6a05bd47c6fd4ced40069a1fdfdb", func := "loop.example/g01025/laws.FnExactAgePortfolio", spec := "fnExactAgePortfolio", unfollowed := true, recurses := true, apart := false, narrowed := true }
def FnExactAgePortfolioUptoSaid : Prop := fnExactAgePortfolioUptoRow.holds Try.pinned (OpenSpec.upto fnExactAgePortfolioSpec)

/-- 'laws.FnExactGainAt', WHERE WHAT IT READS IS OF BULK AT MOST 1048576: true; the input reads as it did. -/
def fnExactGainAtUptoRow : OpenClaim := { program := "ytklnikaakpebnaa", sum := "d321f223427b59042a561042eb05f3e342df6a05bd47c6fd4ced40069a1fdfdb", func := "loop.example/g01025/laws.FnExactGainAt", spec := "fnExactGainAt", named := ["math/bits.divideError", "math/bits.overflowError"], apart := false, narrowed := true }
def FnExactGainAtUptoSaid : Prop := fnExactGainAtUptoRow.holds Try.pinned (OpenSpec.upto fnExactGainAtSpec)

/-- 'laws.FnExactExpectedClaims', WHERE WHAT IT READS IS OF BULK AT MOST 1048576: true; the input reads as it did. -/
def fnExactExpectedClaimsUptoRow : OpenClaim := { program := "ytklnikaakpebnaa", sum := "d321f223427b59042a561042eb05f3e342df6a05bd47c6fd4ced40069a1fdfdb", func := "loop.example/g01025/laws.FnExactExpectedClaims", spec := "fnExactExpectedClaims", unfollowed := true, recurses := true, named := ["math/bits.divideError", "math/bits.overflowError"], apart := false, narrowed := true }
def FnExactExpectedClaimsUptoSaid : Prop := fnExactExpectedClaimsUptoRow.holds Try.pinned (OpenSpec.upto fnExactExpectedClaimsSpec)

/-- 'laws.FnExactForwardReserve', WHERE WHAT IT READS IS OF BULK AT MOST 1048576: true; the input reads as it did. -/
def fnExactForwardReserveUptoRow : OpenClaim := { program := "ytklnikaakpebnaa", sum := "d321f223427b59042a561042eb05f3e342df6a05bd47c6fd4ced40069a1fdfdb", func := "loop.example/g01025/laws.FnExactForwardReserve", spec := "fnExactForwardReserve", named := ["math/bits.divideError", "math/bits.overflowError"], apart := false, narrowed := true }
def FnExactForwardReserveUptoSaid : Prop := fnExactForwardReserveUptoRow.holds Try.pinned (OpenSpec.upto fnExactForwardReserveSpec)

/-- 'laws.FnExactBackwardReserve', WHERE WHAT IT READS IS OF BULK AT MOST 1048576: true; the input reads as it did. -/
def fnExactBackwardReserveUptoRow : OpenClaim := { program := "ytklnikaakpebnaa", sum := "d321f223427b59042a561042eb05f3e342df6a05bd47c6fd4ced40069a1fdfdb", func := "loop.example/g01025/laws.FnExactBackwardReserve", spec := "fnExactBackwardReserve", named := ["math/bits.divideError", "math/bits.overflowError"], apart := false, narrowed := true }
def FnExactBackwardReserveUptoSaid : Prop := fnExactBackwardReserveUptoRow.holds Try.pinned (OpenSpec.upto fnExactBackwardReserveSpec)

/-- 'laws.FnExactReserveList', WHERE WHAT IT READS IS OF BULK AT MOST 1048576: true; the input reads as it did. -/
def fnExactReserveListUptoRow : OpenClaim := { program := "ytklnikaakpebnaa", sum := "d321f223427b59042a561042eb05f3e342df6a05bd47c6fd4ced40069a1fdfdb", func := "loop.example/g01025/laws.FnExactReserveList", spec := "fnExactReserveList", named := ["math/bits.divideError", "math/bits.overflowError"], apart := false, narrowed := true }
def FnExactReserveListUptoSaid : Prop := fnExactReserveListUptoRow.holds Try.pinned (OpenSpec.upto fnExactReserveListSpec)

/-- 'laws.FnExactGreatestReserve', WHERE WHAT IT READS IS OF BULK AT MOST 1048576: true; the input reads as it did. -/
def fnExactGreatestReserveUptoRow : OpenClaim := { program := "ytklnikaakpebnaa", sum := "d321f223427b59042a561042eb05f3e342df6a05bd47c6fd4ced40069a1fdfdb", func := "loop.example/g01025/laws.FnExactGreatestReserve", spec := "fnExactGreatestReserve", named := ["math/bits.divideError", "math/bits.overflowError"], apart := false, narrowed := true }
def FnExactGreatestReserveUptoSaid : Prop := fnExactGreatestReserveUptoRow.holds Try.pinned (OpenSpec.upto fnExactGreatestReserveSpec)

/-- 'laws.FnExactLeavingLoss', WHERE WHAT IT READS IS OF BULK AT MOST 1048576: true; the input reads as it did. -/
def fnExactLeavingLossUptoRow : OpenClaim := { program := "ytklnikaakpebnaa", sum := "d321f223427b59042a561042eb05f3e342df6a05bd47c6fd4ced40069a1fdfdb", func := "loop.example/g01025/laws.FnExactLeavingLoss", spec := "fnExactLeavingLoss", named := ["math/bits.divideError", "math/bits.overflowError"], apart := false, narrowed := true }
def FnExactLeavingLossUptoSaid : Prop := fnExactLeavingLossUptoRow.holds Try.pinned (OpenSpec.upto fnExactLeavingLossSpec)

/-- 'laws.FnExactSurrenderValue', WHERE WHAT IT READS IS OF BULK AT MOST 1048576: true; the input reads as it did. -/
def fnExactSurrenderValueUptoRow : OpenClaim := { program := "ytklnikaakpebnaa", sum := "d321f223427b59042a561042eb05f3e342df6a05bd47c6fd4ced40069a1fdfdb", func := "loop.example/g01025/laws.FnExactSurrenderValue", spec := "fnExactSurrenderValue", named := ["math/bits.divideError", "math/bits.overflowError"], apart := false, narrowed := true }
def FnExactSurrenderValueUptoSaid : Prop := fnExactSurrenderValueUptoRow.holds Try.pinned (OpenSpec.upto fnExactSurrenderValueSpec)

/-- 'laws.FnExactLoanLimit', WHERE WHAT IT READS IS OF BULK AT MOST 1048576: true; the input reads as it did. -/
def fnExactLoanLimitUptoRow : OpenClaim := { program := "ytklnikaakpebnaa", sum := "d321f223427b59042a561042eb05f3e342df6a05bd47c6fd4ced40069a1fdfdb", func := "loop.example/g01025/laws.FnExactLoanLimit", spec := "fnExactLoanLimit", named := ["math/bits.divideError", "math/bits.overflowError"], apart := false, narrowed := true }
def FnExactLoanLimitUptoSaid : Prop := fnExactLoanLimitUptoRow.holds Try.pinned (OpenSpec.upto fnExactLoanLimitSpec)

/-- 'laws.FnExactRiskAt', WHERE WHAT IT READS IS OF BULK AT MOST 1048576: true; the input reads as it did. -/
def fnExactRiskAtUptoRow : OpenClaim := { program := "ytklnikaakpebnaa", sum := "d321f223427b59042a561042eb05f3e342df6a05bd47c6fd4ced40069a1fdfdb", func := "loop.example/g01025/laws.FnExactRiskAt", spec := "fnExactRiskAt", named := ["math/bits.divideError", "math/bits.overflowError"], apart := false, narrowed := true }
def FnExactRiskAtUptoSaid : Prop := fnExactRiskAtUptoRow.holds Try.pinned (OpenSpec.upto fnExactRiskAtSpec)

/-- 'laws.FnExactPaidUpSum', WHERE WHAT IT READS IS OF BULK AT MOST 1048576: true; the input reads as it did. -/
def fnExactPaidUpSumUptoRow : OpenClaim := { program := "ytklnikaakpebnaa", sum := "d321f223427b59042a561042eb05f3e342df6a05bd47c6fd4ced40069a1fdfdb", func := "loop.example/g01025/laws.FnExactPaidUpSum", spec := "fnExactPaidUpSum", named := ["math/bits.divideError", "math/bits.overflowError"], apart := false, narrowed := true }
def FnExactPaidUpSumUptoSaid : Prop := fnExactPaidUpSumUptoRow.holds Try.pinned (OpenSpec.upto fnExactPaidUpSumSpec)

/-- 'laws.FnSurplus', WHERE WHAT IT READS IS OF BULK AT MOST 1048576: true; the input reads as it did. -/
def fnSurplusUptoRow : OpenClaim := { program := "ytklnikaakpebnaa", sum := "d321f223427b59042a561042eb05f3e342df6a05bd47c6fd4ced40069a1fdfdb", func := "loop.example/g01025/laws.FnSurplus", spec := "fnSurplus", unfollowed := true, recurses := true, apart := false, narrowed := true }
def FnSurplusUptoSaid : Prop := fnSurplusUptoRow.holds Try.pinned (OpenSpec.upto fnSurplusSpec)

/-- 'laws.FnExpected', WHERE WHAT IT READS IS OF BULK AT MOST 1048576: true; the input reads as it did. -/
def fnExpectedUptoRow : OpenClaim := { program := "ytklnikaakpebnaa", sum := "d321f223427b59042a561042eb05f3e342df6a05bd47c6fd4ced40069a1fdfdb", func := "loop.example/g01025/laws.FnExpected", spec := "fnExpected", recurses := true, apart := false, narrowed := true }
def FnExpectedUptoSaid : Prop := fnExpectedUptoRow.holds Try.pinned (OpenSpec.upto fnExpectedSpec)

/-- 'laws.FnSurvival', WHERE WHAT IT READS IS OF BULK AT MOST 1048576: true; the input reads as it did. -/
def fnSurvivalUptoRow : OpenClaim := { program := "ytklnikaakpebnaa", sum := "d321f223427b59042a561042eb05f3e342df6a05bd47c6fd4ced40069a1fdfdb", func := "loop.example/g01025/laws.FnSurvival", spec := "fnSurvival", recurses := true, apart := false, narrowed := true }
def FnSurvivalUptoSaid : Prop := fnSurvivalUptoRow.holds Try.pinned (OpenSpec.upto fnSurvivalSpec)

/-- 'laws.FnJoint', WHERE WHAT IT READS IS OF BULK AT MOST 1048576: true; the input reads as it did. -/
def fnJointUptoRow : OpenClaim := { program := "ytklnikaakpebnaa", sum := "d321f223427b59042a561042eb05f3e342df6a05bd47c6fd4ced40069a1fdfdb", func := "loop.example/g01025/laws.FnJoint", spec := "fnJoint", recurses := true, apart := false, narrowed := true }
def FnJointUptoSaid : Prop := fnJointUptoRow.holds Try.pinned (OpenSpec.upto fnJointSpec)

/-- 'laws.FnColumns', WHERE WHAT IT READS IS OF BULK AT MOST 1048576: true; the input reads as it did. -/
def fnColumnsUptoRow : OpenClaim := { program := "ytklnikaakpebnaa", sum := "d321f223427b59042a561042eb05f3e342df6a05bd47c6fd4ced40069a1fdfdb", func := "loop.example/g01025/laws.FnColumns", spec := "fnColumns", unfollowed := true, recurses := true, apart := false, narrowed := true }
def FnColumnsUptoSaid : Prop := fnColumnsUptoRow.holds Try.pinned (OpenSpec.upto fnColumnsSpec)

/-- 'laws.FnPolicies', WHERE WHAT IT READS IS OF BULK AT MOST 1048576: true; the input reads as it did. -/
def fnPoliciesUptoRow : OpenClaim := { program := "ytklnikaakpebnaa", sum := "d321f223427b59042a561042eb05f3e342df6a05bd47c6fd4ced40069a1fdfdb", func := "loop.example/g01025/laws.FnPolicies", spec := "fnPolicies", named := ["math/bits.divideError", "math/bits.overflowError"], apart := false, narrowed := true }
def FnPoliciesUptoSaid : Prop := fnPoliciesUptoRow.holds Try.pinned (OpenSpec.upto fnPoliciesSpec)

/-- 'laws.FnAnnuities', WHERE WHAT IT READS IS OF BULK AT MOST 1048576: true; the input reads as it did. -/
def fnAnnuitiesUptoRow : OpenClaim := { program := "ytklnikaakpebnaa", sum := "d321f223427b59042a561042eb05f3e342df6a05bd47c6fd4ced40069a1fdfdb", func := "loop.example/g01025/laws.FnAnnuities", spec := "fnAnnuities", named := ["math/bits.divideError", "math/bits.overflowError"], apart := false, narrowed := true }
def FnAnnuitiesUptoSaid : Prop := fnAnnuitiesUptoRow.holds Try.pinned (OpenSpec.upto fnAnnuitiesSpec)

/-- 'laws.FnAmounts', WHERE WHAT IT READS IS OF BULK AT MOST 1048576: true; the input reads as it did. -/
def fnAmountsUptoRow : OpenClaim := { program := "ytklnikaakpebnaa", sum := "d321f223427b59042a561042eb05f3e342df6a05bd47c6fd4ced40069a1fdfdb", func := "loop.example/g01025/laws.FnAmounts", spec := "fnAmounts", named := ["math/bits.divideError", "math/bits.overflowError"], apart := false, narrowed := true }
def FnAmountsUptoSaid : Prop := fnAmountsUptoRow.holds Try.pinned (OpenSpec.upto fnAmountsSpec)

/-- 'laws.FnAssurances', WHERE WHAT IT READS IS OF BULK AT MOST 1048576: true; the input reads as it did. -/
def fnAssurancesUptoRow : OpenClaim := { program := "ytklnikaakpebnaa", sum := "d321f223427b59042a561042eb05f3e342df6a05bd47c6fd4ced40069a1fdfdb", func := "loop.example/g01025/laws.FnAssurances", spec := "fnAssurances", named := ["math/bits.divideError", "math/bits.overflowError"], apart := false, narrowed := true }
def FnAssurancesUptoSaid : Prop := fnAssurancesUptoRow.holds Try.pinned (OpenSpec.upto fnAssurancesSpec)

/-- 'laws.FnSumsFor', WHERE WHAT IT READS IS OF BULK AT MOST 1048576: true; the input reads as it did. -/
def fnSumsForUptoRow : OpenClaim := { program := "ytklnikaakpebnaa", sum := "d321f223427b59042a561042eb05f3e342df6a05bd47c6fd4ced40069a1fdfdb", func := "loop.example/g01025/laws.FnSumsFor", spec := "fnSumsFor", named := ["math/bits.divideError", "math/bits.overflowError"], apart := false, narrowed := true }
def FnSumsForUptoSaid : Prop := fnSumsForUptoRow.holds Try.pinned (OpenSpec.upto fnSumsForSpec)

/-- 'laws.FnWidows', WHERE WHAT IT READS IS OF BULK AT MOST 1048576: true; the input reads as it did. -/
def fnWidowsUptoRow : OpenClaim := { program := "ytklnikaakpebnaa", sum := "d321f223427b59042a561042eb05f3e342df6a05bd47c6fd4ced40069a1fdfdb", func := "loop.example/g01025/laws.FnWidows", spec := "fnWidows", recurses := true, named := ["math/bits.divideError", "math/bits.overflowError"], apart := false, narrowed := true }
def FnWidowsUptoSaid : Prop := fnWidowsUptoRow.holds Try.pinned (OpenSpec.upto fnWidowsSpec)

end Rows
end Go.Proofs.Ytklnikaakpebnaa
