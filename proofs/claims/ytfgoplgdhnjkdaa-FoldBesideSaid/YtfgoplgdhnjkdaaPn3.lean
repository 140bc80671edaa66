/- The same of the grids of the kind 3. -/
import Derived.Test.YtfgoplgdhnjkdaaPn
namespace Go.Proofs.Ytfgoplgdhnjkdaa.Be
theorem good3 : goodw 3 := goods_of (by decide +kernel)
end Go.Proofs.Ytfgoplgdhnjkdaa.Be
