/- Words of the print: what the walks of this claim use of them. -/
import Derived.Test.YtfgoplgdhnjkdaaWFootNe
namespace Go.Proofs.YtfgoplgdhnjkdaaW.PrintWords
open Go.RowKit
namespace Kd
end Kd
end Go.Proofs.YtfgoplgdhnjkdaaW.PrintWords
