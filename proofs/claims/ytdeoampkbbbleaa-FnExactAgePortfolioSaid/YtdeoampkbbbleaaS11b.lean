/- Contracts of the reference's answers on reserves. Condition: the slice reads as the table's numbers. -/
import Derived.Test.YtdeoampkbbbleaaS11
namespace Go.Proofs.Ytdeoampkbbbleaa
open Go.RowKit Pu

end Go.Proofs.Ytdeoampkbbbleaa
