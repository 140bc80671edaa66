/- Words of the print: what the walks of this claim use of them. -/
import Derived.Test.YtocijdlbpablkaaWFootNe
namespace Go.Proofs.YtocijdlbpablkaaW.PrintWords
open Go.RowKit
namespace Kd
end Kd
end Go.Proofs.YtocijdlbpablkaaW.PrintWords
