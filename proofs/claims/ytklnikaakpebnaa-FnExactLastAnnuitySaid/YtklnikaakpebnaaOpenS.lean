/- The reading of the laws' sickness tables. Condition: none. -/
import Derived.Test.YtklnikaakpebnaaOpen
namespace Go.Proofs.Ytklnikaakpebnaa
open Go.ChangeShapes Go.WideShapes Go.ChangeAt Go.RowKit Pu

end Go.Proofs.Ytklnikaakpebnaa
