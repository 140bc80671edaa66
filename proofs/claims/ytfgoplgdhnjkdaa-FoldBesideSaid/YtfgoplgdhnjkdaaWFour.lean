/- Words of the print: what the walks of this claim use of them. -/
import Derived.Test.YtfgoplgdhnjkdaaWTab
namespace Go.Proofs.YtfgoplgdhnjkdaaW.PrintLast
end Go.Proofs.YtfgoplgdhnjkdaaW.PrintLast
