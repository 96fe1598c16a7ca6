/-
  No cell of these rows narrows 'for every input' (looked for: loops, veiled, ifaces, maps, wideKeys, modest, calm, conditions, laid).
  DERIVED. THE GIVEN ROWS OF THIS SEAT. 15 by the template 'for every input the law returns true; each argument reads behind the call as it read before'; 0 by the template 'total and deterministic' (their statements: YtdeoampkbbbleaaTotals.lean).
  GIVEN WITH THE SEED: the statements are not yours to turn. If you find one false, say at which input.
  Laid BY PROGRAM, IN A SANDBOX (cutbox-rows.mjs): the forced cells as the released guide's own fill.sh prints them over the translation 45d24298ad78d135… (all of the seat's roots in one cut). By AI agents, Wed Nov 11 2026. No macro, syntax, notation, axiom, sorry.
-/
import Derived.Test.YtdeoampkbbbleaaChecked
import GoSem.Claim
import GoSem.ClaimJoined
import GoSem.ClaimMapViews
import Derived.JoinedTies
import Derived.KernelRfl
namespace Go.Proofs.Ytdeoampkbbbleaa
/- THE CELL 'sum', in the pinned program and in every row, IS THE sha256 OF THE DUMP (.gsa) THAT YtdeoampkbbbleaaProg.lean LOADS. Nothing in Lean hashes anything: it is a label: what it is worth is what the hold of that sum in a sandbox is worth. -/
noncomputable def Try.pinned : Pinned := { name := "ytdeoampkbbbleaa", sum := "45d24298ad78d135a27db61e8c79104b0f4efaf9b200927ba0d31c153b728c26", checked := Try.checked }
namespace Rows
def none {H : Type} : Left H := { results := [], args := [] }

/-- 'laws.FnExactIsPortfolio': WHATEVER THE INPUT: true; the input reads as it did. -/
def fnExactIsPortfolioSpec : ChangeSpec := { name := "fnExactIsPortfolio", fn := fun _ => fun
  | [d1, d2] => { results := [.lit (.bool true)], args := [d1, d2] }
  | _ => none }
def fnExactIsPortfolioRow : OpenClaim := { program := "ytdeoampkbbbleaa", sum := "45d24298ad78d135a27db61e8c79104b0f4efaf9b200927ba0d31c153b728c26", func := "loop.example/g01025/laws.FnExactIsPortfolio", spec := "fnExactIsPortfolio", unfollowed := true, recurses := true, apart := false }
def FnExactIsPortfolioSaid : Prop := fnExactIsPortfolioRow.holds Try.pinned (OpenSpec.ofChange fnExactIsPortfolioSpec)

/-- ITS FALSE NEIGHBOUR: 'it returns false'. Refute it at one input. -/
def fnExactIsPortfolioWrong : ChangeSpec := { name := "fnExactIsPortfolio", fn := fun _ => fun
  | [d1, d2] => { results := [.lit (.bool false)], args := [d1, d2] }
  | _ => none }
def FnExactIsPortfolioWrongFalsely : Prop := fnExactIsPortfolioRow.holds Try.pinned (OpenSpec.ofChange fnExactIsPortfolioWrong)

/-- 'laws.FnExactMaturingSums': WHATEVER THE INPUT: true; the input reads as it did. -/
def fnExactMaturingSumsSpec : ChangeSpec := { name := "fnExactMaturingSums", fn := fun _ => fun
  | [d1, d2] => { results := [.lit (.bool true)], args := [d1, d2] }
  | _ => none }
def fnExactMaturingSumsRow : OpenClaim := { program := "ytdeoampkbbbleaa", sum := "45d24298ad78d135a27db61e8c79104b0f4efaf9b200927ba0d31c153b728c26", func := "loop.example/g01025/laws.FnExactMaturingSums", spec := "fnExactMaturingSums", unfollowed := true, recurses := true, apart := false }
def FnExactMaturingSumsSaid : Prop := fnExactMaturingSumsRow.holds Try.pinned (OpenSpec.ofChange fnExactMaturingSumsSpec)

/-- ITS FALSE NEIGHBOUR: 'it returns false'. Refute it at one input. -/
def fnExactMaturingSumsWrong : ChangeSpec := { name := "fnExactMaturingSums", fn := fun _ => fun
  | [d1, d2] => { results := [.lit (.bool false)], args := [d1, d2] }
  | _ => none }
def FnExactMaturingSumsWrongFalsely : Prop := fnExactMaturingSumsRow.holds Try.pinned (OpenSpec.ofChange fnExactMaturingSumsWrong)

/-- 'laws.FnExactAgePortfolio': WHATEVER THE INPUT: true; the input reads as it did. -/
def fnExactAgePortfolioSpec : ChangeSpec := { name := "fnExactAgePortfolio", fn := fun _ => fun
  | [d1, d2, d3] => { results := [.lit (.bool true)], args := [d1, d2, d3] }
  | _ => none }
def fnExactAgePortfolioRow : OpenClaim := { program := "ytdeoampkbbbleaa", sum := "45d24298ad78d135a27db61e8c79104b0f4efaf9b200927ba0d31c153b728c26", func := "loop.example/g01025/laws.FnExactAgePortfolio", spec := "fnExactAgePortfolio", unfollowed := true, recurses := true, apart := false }
def FnExactAgePortfolioSaid : Prop := fnExactAgePortfolioRow.holds Try.pinned (OpenSpec.ofChange fnExactAgePortfolioSpec)

/-- ITS FALSE NEIGHBOUR: 'it returns false'. Refute it at one input. -/
def fnExactAgePortfolioWrong : ChangeSpec := { name := "fnExactAgePortfolio", fn := fun _ => fun
  | [d1, d2, d3] => { results := [.lit (.bool false)], args := [d1, d2, d3] }
  | _ => none }
def FnExactAgePortfolioWrongFalsely : Prop := fnExactAgePortfolioRow.holds Try.pinned (OpenSpec.ofChange fnExactAgePortfolioWrong)

/-- 'laws.FnExactExpectedClaims': WHATEVER THE INPUT: true; the input reads as it did. -/
def fnExactExpectedClaimsSpec : ChangeSpec := { name := "fnExactExpectedClaims", fn := fun _ => fun
  | [d1, d2] => { results := [.lit (.bool true)], args := [d1, d2] }
  | _ => none }
def fnExactExpectedClaimsRow : OpenClaim := { program := "ytdeoampkbbbleaa", sum := "45d24298ad78d135a27db61e8c79104b0f4efaf9b200927ba0d31c153b728c26", func := "loop.example/g01025/laws.FnExactExpectedClaims", spec := "fnExactExpectedClaims", unfollowed := true, recurses := true, named := ["math/bits.divideError", "math/bits.overflowError"], apart := false }
def FnExactExpectedClaimsSaid : Prop := fnExactExpectedClaimsRow.holds Try.pinned (OpenSpec.ofChange fnExactExpectedClaimsSpec)

/-- ITS FALSE NEIGHBOUR: 'it returns false'. Refute it at one input. -/
def fnExactExpectedClaimsWrong : ChangeSpec := { name := "fnExactExpectedClaims", fn := fun _ => fun
  | [d1, d2] => { results := [.lit (.bool false)], args := [d1, d2] }
  | _ => none }
def FnExactExpectedClaimsWrongFalsely : Prop := fnExactExpectedClaimsRow.holds Try.pinned (OpenSpec.ofChange fnExactExpectedClaimsWrong)

/-- 'laws.FnSurplus': WHATEVER THE INPUT: true; the input reads as it did. -/
def fnSurplusSpec : ChangeSpec := { name := "fnSurplus", fn := fun _ => fun
  | [d] => { results := [.lit (.bool true)], args := [d] }
  | _ => none }
def fnSurplusRow : OpenClaim := { program := "ytdeoampkbbbleaa", sum := "45d24298ad78d135a27db61e8c79104b0f4efaf9b200927ba0d31c153b728c26", func := "loop.example/g01025/laws.FnSurplus", spec := "fnSurplus", unfollowed := true, recurses := true, apart := false }
def FnSurplusSaid : Prop := fnSurplusRow.holds Try.pinned (OpenSpec.ofChange fnSurplusSpec)

/-- ITS FALSE NEIGHBOUR: 'it returns false'. Refute it at one input. -/
def fnSurplusWrong : ChangeSpec := { name := "fnSurplus", fn := fun _ => fun
  | [d] => { results := [.lit (.bool false)], args := [d] }
  | _ => none }
def FnSurplusWrongFalsely : Prop := fnSurplusRow.holds Try.pinned (OpenSpec.ofChange fnSurplusWrong)

/-- 'laws.FnExpected': WHATEVER THE INPUT: true; the input reads as it did. -/
def fnExpectedSpec : ChangeSpec := { name := "fnExpected", fn := fun _ => fun
  | [d] => { results := [.lit (.bool true)], args := [d] }
  | _ => none }
def fnExpectedRow : OpenClaim := { program := "ytdeoampkbbbleaa", sum := "45d24298ad78d135a27db61e8c79104b0f4efaf9b200927ba0d31c153b728c26", func := "loop.example/g01025/laws.FnExpected", spec := "fnExpected", recurses := true, apart := false }
def FnExpectedSaid : Prop := fnExpectedRow.holds Try.pinned (OpenSpec.ofChange fnExpectedSpec)

/-- ITS FALSE NEIGHBOUR: 'it returns false'. Refute it at one input. -/
def fnExpectedWrong : ChangeSpec := { name := "fnExpected", fn := fun _ => fun
  | [d] => { results := [.lit (.bool false)], args := [d] }
  | _ => none }
def FnExpectedWrongFalsely : Prop := fnExpectedRow.holds Try.pinned (OpenSpec.ofChange fnExpectedWrong)

/-- 'laws.FnSurvival': WHATEVER THE INPUT: true; the input reads as it did. -/
def fnSurvivalSpec : ChangeSpec := { name := "fnSurvival", fn := fun _ => fun
  | [d] => { results := [.lit (.bool true)], args := [d] }
  | _ => none }
def fnSurvivalRow : OpenClaim := { program := "ytdeoampkbbbleaa", sum := "45d24298ad78d135a27db61e8c79104b0f4efaf9b200927ba0d31c153b728c26", func := "loop.example/g01025/laws.FnSurvival", spec := "fnSurvival", recurses := true, apart := false }
def FnSurvivalSaid : Prop := fnSurvivalRow.holds Try.pinned (OpenSpec.ofChange fnSurvivalSpec)

/-- ITS FALSE NEIGHBOUR: 'it returns false'. Refute it at one input. -/
def fnSurvivalWrong : ChangeSpec := { name := "fnSurvival", fn := fun _ => fun
  | [d] => { results := [.lit (.bool false)], args := [d] }
  | _ => none }
def FnSurvivalWrongFalsely : Prop := fnSurvivalRow.holds Try.pinned (OpenSpec.ofChange fnSurvivalWrong)

/-- 'laws.FnJoint': WHATEVER THE INPUT: true; the input reads as it did. -/
def fnJointSpec : ChangeSpec := { name := "fnJoint", fn := fun _ => fun
  | [d] => { results := [.lit (.bool true)], args := [d] }
  | _ => none }
def fnJointRow : OpenClaim := { program := "ytdeoampkbbbleaa", sum := "45d24298ad78d135a27db61e8c79104b0f4efaf9b200927ba0d31c153b728c26", func := "loop.example/g01025/laws.FnJoint", spec := "fnJoint", recurses := true, apart := false }
def FnJointSaid : Prop := fnJointRow.holds Try.pinned (OpenSpec.ofChange fnJointSpec)

/-- ITS FALSE NEIGHBOUR: 'it returns false'. Refute it at one input. -/
def fnJointWrong : ChangeSpec := { name := "fnJoint", fn := fun _ => fun
  | [d] => { results := [.lit (.bool false)], args := [d] }
  | _ => none }
def FnJointWrongFalsely : Prop := fnJointRow.holds Try.pinned (OpenSpec.ofChange fnJointWrong)

/-- 'laws.FnColumns': WHATEVER THE INPUT: true; the input reads as it did. -/
def fnColumnsSpec : ChangeSpec := { name := "fnColumns", fn := fun _ => fun
  | [d] => { results := [.lit (.bool true)], args := [d] }
  | _ => none }
def fnColumnsRow : OpenClaim := { program := "ytdeoampkbbbleaa", sum := "45d24298ad78d135a27db61e8c79104b0f4efaf9b200927ba0d31c153b728c26", func := "loop.example/g01025/laws.FnColumns", spec := "fnColumns", unfollowed := true, recurses := true, apart := false }
def FnColumnsSaid : Prop := fnColumnsRow.holds Try.pinned (OpenSpec.ofChange fnColumnsSpec)

/-- ITS FALSE NEIGHBOUR: 'it returns false'. Refute it at one input. -/
def fnColumnsWrong : ChangeSpec := { name := "fnColumns", fn := fun _ => fun
  | [d] => { results := [.lit (.bool false)], args := [d] }
  | _ => none }
def FnColumnsWrongFalsely : Prop := fnColumnsRow.holds Try.pinned (OpenSpec.ofChange fnColumnsWrong)

/-- 'laws.FnPolicies': WHATEVER THE INPUT: true; the input reads as it did. -/
def fnPoliciesSpec : ChangeSpec := { name := "fnPolicies", fn := fun _ => fun
  | [d] => { results := [.lit (.bool true)], args := [d] }
  | _ => none }
def fnPoliciesRow : OpenClaim := { program := "ytdeoampkbbbleaa", sum := "45d24298ad78d135a27db61e8c79104b0f4efaf9b200927ba0d31c153b728c26", func := "loop.example/g01025/laws.FnPolicies", spec := "fnPolicies", named := ["math/bits.divideError", "math/bits.overflowError"], apart := false }
def FnPoliciesSaid : Prop := fnPoliciesRow.holds Try.pinned (OpenSpec.ofChange fnPoliciesSpec)

/-- ITS FALSE NEIGHBOUR: 'it returns false'. Refute it at one input. -/
def fnPoliciesWrong : ChangeSpec := { name := "fnPolicies", fn := fun _ => fun
  | [d] => { results := [.lit (.bool false)], args := [d] }
  | _ => none }
def FnPoliciesWrongFalsely : Prop := fnPoliciesRow.holds Try.pinned (OpenSpec.ofChange fnPoliciesWrong)

/-- 'laws.FnAnnuities': WHATEVER THE INPUT: true; the input reads as it did. -/
def fnAnnuitiesSpec : ChangeSpec := { name := "fnAnnuities", fn := fun _ => fun
  | [d] => { results := [.lit (.bool true)], args := [d] }
  | _ => none }
def fnAnnuitiesRow : OpenClaim := { program := "ytdeoampkbbbleaa", sum := "45d24298ad78d135a27db61e8c79104b0f4efaf9b200927ba0d31c153b728c26", func := "loop.example/g01025/laws.FnAnnuities", spec := "fnAnnuities", named := ["math/bits.divideError", "math/bits.overflowError"], apart := false }
def FnAnnuitiesSaid : Prop := fnAnnuitiesRow.holds Try.pinned (OpenSpec.ofChange fnAnnuitiesSpec)

/-- ITS FALSE NEIGHBOUR: 'it returns false'. Refute it at one input. -/
def fnAnnuitiesWrong : ChangeSpec := { name := "fnAnnuities", fn := fun _ => fun
  | [d] => { results := [.lit (.bool false)], args := [d] }
  | _ => none }
def FnAnnuitiesWrongFalsely : Prop := fnAnnuitiesRow.holds Try.pinned (OpenSpec.ofChange fnAnnuitiesWrong)

/-- 'laws.FnAmounts': WHATEVER THE INPUT: true; the input reads as it did. -/
def fnAmountsSpec : ChangeSpec := { name := "fnAmounts", fn := fun _ => fun
  | [d] => { results := [.lit (.bool true)], args := [d] }
  | _ => none }
def fnAmountsRow : OpenClaim := { program := "ytdeoampkbbbleaa", sum := "45d24298ad78d135a27db61e8c79104b0f4efaf9b200927ba0d31c153b728c26", func := "loop.example/g01025/laws.FnAmounts", spec := "fnAmounts", named := ["math/bits.divideError", "math/bits.overflowError"], apart := false }
def FnAmountsSaid : Prop := fnAmountsRow.holds Try.pinned (OpenSpec.ofChange fnAmountsSpec)

/-- ITS FALSE NEIGHBOUR: 'it returns false'. Refute it at one input. -/
def fnAmountsWrong : ChangeSpec := { name := "fnAmounts", fn := fun _ => fun
  | [d] => { results := [.lit (.bool false)], args := [d] }
  | _ => none }
def FnAmountsWrongFalsely : Prop := fnAmountsRow.holds Try.pinned (OpenSpec.ofChange fnAmountsWrong)

/-- 'laws.FnAssurances': WHATEVER THE INPUT: true; the input reads as it did. -/
def fnAssurancesSpec : ChangeSpec := { name := "fnAssurances", fn := fun _ => fun
  | [d] => { results := [.lit (.bool true)], args := [d] }
  | _ => none }
def fnAssurancesRow : OpenClaim := { program := "ytdeoampkbbbleaa", sum := "45d24298ad78d135a27db61e8c79104b0f4efaf9b200927ba0d31c153b728c26", func := "loop.example/g01025/laws.FnAssurances", spec := "fnAssurances", named := ["math/bits.divideError", "math/bits.overflowError"], apart := false }
def FnAssurancesSaid : Prop := fnAssurancesRow.holds Try.pinned (OpenSpec.ofChange fnAssurancesSpec)

/-- ITS FALSE NEIGHBOUR: 'it returns false'. Refute it at one input. -/
def fnAssurancesWrong : ChangeSpec := { name := "fnAssurances", fn := fun _ => fun
  | [d] => { results := [.lit (.bool false)], args := [d] }
  | _ => none }
def FnAssurancesWrongFalsely : Prop := fnAssurancesRow.holds Try.pinned (OpenSpec.ofChange fnAssurancesWrong)

/-- 'laws.FnSumsFor': WHATEVER THE INPUT: true; the input reads as it did. -/
def fnSumsForSpec : ChangeSpec := { name := "fnSumsFor", fn := fun _ => fun
  | [d] => { results := [.lit (.bool true)], args := [d] }
  | _ => none }
def fnSumsForRow : OpenClaim := { program := "ytdeoampkbbbleaa", sum := "45d24298ad78d135a27db61e8c79104b0f4efaf9b200927ba0d31c153b728c26", func := "loop.example/g01025/laws.FnSumsFor", spec := "fnSumsFor", named := ["math/bits.divideError", "math/bits.overflowError"], apart := false }
def FnSumsForSaid : Prop := fnSumsForRow.holds Try.pinned (OpenSpec.ofChange fnSumsForSpec)

/-- ITS FALSE NEIGHBOUR: 'it returns false'. Refute it at one input. -/
def fnSumsForWrong : ChangeSpec := { name := "fnSumsFor", fn := fun _ => fun
  | [d] => { results := [.lit (.bool false)], args := [d] }
  | _ => none }
def FnSumsForWrongFalsely : Prop := fnSumsForRow.holds Try.pinned (OpenSpec.ofChange fnSumsForWrong)

/-- 'laws.FnWidows': WHATEVER THE INPUT: true; the input reads as it did. -/
def fnWidowsSpec : ChangeSpec := { name := "fnWidows", fn := fun _ => fun
  | [d] => { results := [.lit (.bool true)], args := [d] }
  | _ => none }
def fnWidowsRow : OpenClaim := { program := "ytdeoampkbbbleaa", sum := "45d24298ad78d135a27db61e8c79104b0f4efaf9b200927ba0d31c153b728c26", func := "loop.example/g01025/laws.FnWidows", spec := "fnWidows", recurses := true, named := ["math/bits.divideError", "math/bits.overflowError"], apart := false }
def FnWidowsSaid : Prop := fnWidowsRow.holds Try.pinned (OpenSpec.ofChange fnWidowsSpec)

/-- ITS FALSE NEIGHBOUR: 'it returns false'. Refute it at one input. -/
def fnWidowsWrong : ChangeSpec := { name := "fnWidows", fn := fun _ => fun
  | [d] => { results := [.lit (.bool false)], args := [d] }
  | _ => none }
def FnWidowsWrongFalsely : Prop := fnWidowsRow.holds Try.pinned (OpenSpec.ofChange fnWidowsWrong)

/- THE SECOND FORM. 'bulk': how many values and letters a reading holds, each counted each time it is reached (what is shared counts as often as it is met; a slice's spare places count too). A statement '..UptoSaid' is the law's where the arguments, and the package variables that the reading takes, are together of bulk at most 1048576: NARROWER than '..Said'. Prove '..Said' where nothing that the law and all that it calls make is longer than what came in: it says more and counts as full. Else prove '..UptoSaid'. A law counts once. -/
mutual
def uptoBulk {H : Type} : DataW H → Nat
  | .lit (.string bytes) => bytes.length + 1
  | .lit _ => 1
  | .nil => 1
  | .ptr d => uptoBulk d + 1
  | .slice elems spare => uptoBulkAll elems + uptoBulkAll spare + 1
  | .agg parts => uptoBulkAll parts + 1
  | .iface _ d => uptoBulk d + 1
  | .map entries => uptoBulkEntries entries + 1
  | .held _ => 1
def uptoBulkAll {H : Type} : List (DataW H) → Nat
  | [] => 0
  | d :: r => uptoBulk d + uptoBulkAll r
def uptoBulkEntries {H : Type} : List (Lit × DataW H) → Nat
  | [] => 0
  | x :: r => uptoBulkEntry x + uptoBulkEntries r
def uptoBulkEntry {H : Type} : Lit × DataW H → Nat
  | (.string bytes, d) => bytes.length + uptoBulk d + 1
  | (_, d) => uptoBulk d + 1
 end
def uptoSmall : (H : Type) → List (DataW H) → Bool := fun _ ds => decide (uptoBulkAll ds ≤ 1048576)
def OpenSpec.upto (s : _root_.Go.ChangeSpec) : _root_.Go.OpenSpec := { _root_.Go.OpenSpec.ofChange s with cond := some uptoSmall }

/-- 'laws.FnExactIsPortfolio', WHERE WHAT IT READS IS OF BULK AT MOST 1048576: true; the input reads as it did. -/
def fnExactIsPortfolioUptoRow : OpenClaim := { program := "ytdeoampkbbbleaa", sum := "45d24298ad78d135a27db61e8c79104b0f4efaf9b200927ba0d31c153b728c26", func := "loop.example/g01025/laws.FnExactIsPortfolio", spec := "fnExactIsPortfolio", unfollowed := true, recurses := true, apart := false, narrowed := true }
def FnExactIsPortfolioUptoSaid : Prop := fnExactIsPortfolioUptoRow.holds Try.pinned (OpenSpec.upto fnExactIsPortfolioSpec)

/-- 'laws.FnExactMaturingSums', WHERE WHAT IT READS IS OF BULK AT MOST 1048576: true; the input reads as it did. -/
def fnExactMaturingSumsUptoRow : OpenClaim := { program := "ytdeoampkbbbleaa", sum := "45d24298ad78d135a27db61e8c79104b0f4efaf9b200927ba0d31c153b728c26", func := "loop.example/g01025/laws.FnExactMaturingSums", spec := "fnExactMaturingSums", unfollowed := true, recurses := true, apart := false, narrowed := true }
def FnExactMaturingSumsUptoSaid : Prop := fnExactMaturingSumsUptoRow.holds Try.pinned (OpenSpec.upto fnExactMaturingSumsSpec)

/-- 'laws.FnExactAgePortfolio', WHERE WHAT IT READS IS OF BULK AT MOST 1048576: true; the input reads as it did. -/
def fnExactAgePortfolioUptoRow : OpenClaim := { program := "ytdeoampkbbbleaa", sum := "45d24298ad78d135a27db61e8c79104b0f4efaf9b200927ba0d31c153b728c26", func := "loop.example/g01025/laws.FnExactAgePortfolio", spec := "fnExactAgePortfolio", unfollowed := true, recurses := true, apart := false, narrowed := true }
def FnExactAgePortfolioUptoSaid : Prop := fnExactAgePortfolioUptoRow.holds Try.pinned (OpenSpec.upto fnExactAgePortfolioSpec)

/-- 'laws.FnExactExpectedClaims', WHERE WHAT IT READS IS OF BULK AT MOST 1048576: true; the input reads as it did. -/
def fnExactExpectedClaimsUptoRow : OpenClaim := { program := "ytdeoampkbbbleaa", sum := "45d24298ad78d135a27db61e8c79104b0f4efaf9b200927ba0d31c153b728c26", func := "loop.example/g01025/laws.FnExactExpectedClaims", spec := "fnExactExpectedClaims", unfollowed := true, recurses := true, named := ["math/bits.divideError", "math/bits.overflowError"], apart := false, narrowed := true }
def FnExactExpectedClaimsUptoSaid : Prop := fnExactExpectedClaimsUptoRow.holds Try.pinned (OpenSpec.upto fnExactExpectedClaimsSpec)

/-- 'laws.FnSurplus', WHERE WHAT IT READS IS OF BULK AT MOST 1048576: true; the input reads as it did. -/
def fnSurplusUptoRow : OpenClaim := { program := "ytdeoampkbbbleaa", sum := "45d24298ad78d135a27db61e8c79104b0f4efaf9b200927ba0d31c153b728c26", func := "loop.example/g01025/laws.FnSurplus", spec := "fnSurplus", unfollowed := true, recurses := true, apart := false, narrowed := true }
def FnSurplusUptoSaid : Prop := fnSurplusUptoRow.holds Try.pinned (OpenSpec.upto fnSurplusSpec)

/-- 'laws.FnExpected', WHERE WHAT IT READS IS OF BULK AT MOST 1048576: true; the input reads as it did. -/
def fnExpectedUptoRow : OpenClaim := { program := "ytdeoampkbbbleaa", sum := "45d24298ad78d135a27db61e8c79104b0f4efaf9b200927ba0d31c153b728c26", func := "loop.example/g01025/laws.FnExpected", spec := "fnExpected", recurses := true, apart := false, narrowed := true }
def FnExpectedUptoSaid : Prop := fnExpectedUptoRow.holds Try.pinned (OpenSpec.upto fnExpectedSpec)

/-- 'laws.FnSurvival', WHERE WHAT IT READS IS OF BULK AT MOST 1048576: true; the input reads as it did. -/
def fnSurvivalUptoRow : OpenClaim := { program := "ytdeoampkbbbleaa", sum := "45d24298ad78d135a27db61e8c79104b0f4efaf9b200927ba0d31c153b728c26", func := "loop.example/g01025/laws.FnSurvival", spec := "fnSurvival", recurses := true, apart := false, narrowed := true }
def FnSurvivalUptoSaid : Prop := fnSurvivalUptoRow.holds Try.pinned (OpenSpec.upto fnSurvivalSpec)

/-- 'laws.FnJoint', WHERE WHAT IT READS IS OF BULK AT MOST 1048576: true; the input reads as it did. -/
def fnJointUptoRow : OpenClaim := { program := "ytdeoampkbbbleaa", sum := "45d24298ad78d135a27db61e8c79104b0f4efaf9b200927ba0d31c153b728c26", func := "loop.example/g01025/laws.FnJoint", spec := "fnJoint", recurses := true, apart := false, narrowed := true }
def FnJointUptoSaid : Prop := fnJointUptoRow.holds Try.pinned (OpenSpec.upto fnJointSpec)

/-- 'laws.FnColumns', WHERE WHAT IT READS IS OF BULK AT MOST 1048576: true; the input reads as it did. -/
def fnColumnsUptoRow : OpenClaim := { program := "ytdeoampkbbbleaa", sum := "45d24298ad78d135a27db61e8c79104b0f4efaf9b200927ba0d31c153b728c26", func := "loop.example/g01025/laws.FnColumns", spec := "fnColumns", unfollowed := true, recurses := true, apart := false, narrowed := true }
def FnColumnsUptoSaid : Prop := fnColumnsUptoRow.holds Try.pinned (OpenSpec.upto fnColumnsSpec)

/-- 'laws.FnPolicies', WHERE WHAT IT READS IS OF BULK AT MOST 1048576: true; the input reads as it did. -/
def fnPoliciesUptoRow : OpenClaim := { program := "ytdeoampkbbbleaa", sum := "45d24298ad78d135a27db61e8c79104b0f4efaf9b200927ba0d31c153b728c26", func := "loop.example/g01025/laws.FnPolicies", spec := "fnPolicies", named := ["math/bits.divideError", "math/bits.overflowError"], apart := false, narrowed := true }
def FnPoliciesUptoSaid : Prop := fnPoliciesUptoRow.holds Try.pinned (OpenSpec.upto fnPoliciesSpec)

/-- 'laws.FnAnnuities', WHERE WHAT IT READS IS OF BULK AT MOST 1048576: true; the input reads as it did. -/
def fnAnnuitiesUptoRow : OpenClaim := { program := "ytdeoampkbbbleaa", sum := "45d24298ad78d135a27db61e8c79104b0f4efaf9b200927ba0d31c153b728c26", func := "loop.example/g01025/laws.FnAnnuities", spec := "fnAnnuities", named := ["math/bits.divideError", "math/bits.overflowError"], apart := false, narrowed := true }
def FnAnnuitiesUptoSaid : Prop := fnAnnuitiesUptoRow.holds Try.pinned (OpenSpec.upto fnAnnuitiesSpec)

/-- 'laws.FnAmounts', WHERE WHAT IT READS IS OF BULK AT MOST 1048576: true; the input reads as it did. -/
def fnAmountsUptoRow : OpenClaim := { program := "ytdeoampkbbbleaa", sum := "45d24298ad78d135a27db61e8c79104b0f4efaf9b200927ba0d31c153b728c26", func := "loop.example/g01025/laws.FnAmounts", spec := "fnAmounts", named := ["math/bits.divideError", "math/bits.overflowError"], apart := false, narrowed := true }
def FnAmountsUptoSaid : Prop := fnAmountsUptoRow.holds Try.pinned (OpenSpec.upto fnAmountsSpec)

/-- 'laws.FnAssurances', WHERE WHAT IT READS IS OF BULK AT MOST 1048576: true; the input reads as it did. -/
def fnAssurancesUptoRow : OpenClaim := { program := "ytdeoampkbbbleaa", sum := "45d24298ad78d135a27db61e8c79104b0f4efaf9b200927ba0d31c153b728c26", func := "loop.example/g01025/laws.FnAssurances", spec := "fnAssurances", named := ["math/bits.divideError", "math/bits.overflowError"], apart := false, narrowed := true }
def FnAssurancesUptoSaid : Prop := fnAssurancesUptoRow.holds Try.pinned (OpenSpec.upto fnAssurancesSpec)

/-- 'laws.FnSumsFor', WHERE WHAT IT READS IS OF BULK AT MOST 1048576: true; the input reads as it did. -/
def fnSumsForUptoRow : OpenClaim := { program := "ytdeoampkbbbleaa", sum := "45d24298ad78d135a27db61e8c79104b0f4efaf9b200927ba0d31c153b728c26", func := "loop.example/g01025/laws.FnSumsFor", spec := "fnSumsFor", named := ["math/bits.divideError", "math/bits.overflowError"], apart := false, narrowed := true }
def FnSumsForUptoSaid : Prop := fnSumsForUptoRow.holds Try.pinned (OpenSpec.upto fnSumsForSpec)

/-- 'laws.FnWidows', WHERE WHAT IT READS IS OF BULK AT MOST 1048576: true; the input reads as it did. -/
def fnWidowsUptoRow : OpenClaim := { program := "ytdeoampkbbbleaa", sum := "45d24298ad78d135a27db61e8c79104b0f4efaf9b200927ba0d31c153b728c26", func := "loop.example/g01025/laws.FnWidows", spec := "fnWidows", recurses := true, named := ["math/bits.divideError", "math/bits.overflowError"], apart := false, narrowed := true }
def FnWidowsUptoSaid : Prop := fnWidowsUptoRow.holds Try.pinned (OpenSpec.upto fnWidowsSpec)

end Rows
end Go.Proofs.Ytdeoampkbbbleaa
