/- Contracts of the reference's lists of reserves: ReserveList. Condition: the slice reads as the table's numbers. -/
import Derived.Test.YtdeoampkbbbleaaS12
import Derived.Test.YtdeoampkbbbleaaPol2
import Derived.Test.YtdeoampkbbbleaaStep
import Derived.Test.YtdeoampkbbbleaaLists
namespace Go.Proofs.Ytdeoampkbbbleaa
open Go.RowKit Pu

end Go.Proofs.Ytdeoampkbbbleaa
