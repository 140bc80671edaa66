/- Words of the print: what the walks of this claim use of them. -/
import Derived.Test.YtocijdlbpablkaaWInv
import Derived.Test.YtocijdlbpablkaaWFootNe
namespace Go.Proofs.YtocijdlbpablkaaW.PrintWords
open Go.RowKit
end Go.Proofs.YtocijdlbpablkaaW.PrintWords
namespace Go.Proofs.YtocijdlbpablkaaW.PrintLast
end Go.Proofs.YtocijdlbpablkaaW.PrintLast
