/- Words of the print: what the walks of this claim use of them. -/
import Derived.Test.YtfgoplgdhnjkdaaWInv
import Derived.Test.YtfgoplgdhnjkdaaWFootNe
namespace Go.Proofs.YtfgoplgdhnjkdaaW.PrintWords
open Go.RowKit
end Go.Proofs.YtfgoplgdhnjkdaaW.PrintWords
namespace Go.Proofs.YtfgoplgdhnjkdaaW.PrintLast
end Go.Proofs.YtfgoplgdhnjkdaaW.PrintLast
