/- Words of the print: what the walks of this claim use of them. -/
import Derived.Test.YtocijdlbpablkaaWTab
namespace Go.Proofs.YtocijdlbpablkaaW.PrintLast
end Go.Proofs.YtocijdlbpablkaaW.PrintLast
