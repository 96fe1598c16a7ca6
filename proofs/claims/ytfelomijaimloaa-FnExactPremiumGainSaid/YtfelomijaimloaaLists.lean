/- Contracts of the reference's lists of columns. Condition: the slice reads as the table's numbers. -/
import Derived.Test.YtfelomijaimloaaCodes
import Derived.Test.YtfelomijaimloaaCols
import Derived.Test.YtfelomijaimloaaOwn
namespace Go.Proofs.Ytfelomijaimloaa
open Go.RowKit Pu

/-- A new slice and a code are returned. -/
def RetIC (w : World) (xs : List Int) (code : Int) (e : Ending) (w' : World) : Prop := ∃ v, e = .returned (.tuple #[v, .int .i64 code]) ∧ Up w w' ∧ Own w w' v xs

open Classical in
/-- What a column's list is. -/
noncomputable def colList (T : Tab) (r : Int) (g : Nat → Int) : List Int := if code5 T r T.first = 0 then (List.range T.n).map g else []

theorem range_snoc (g : Nat → Int) (k : Nat) : (List.range (k + 1)).map g = (List.range k).map g ++ [g k] := by simp [List.range_succ]

end Go.Proofs.Ytfelomijaimloaa
