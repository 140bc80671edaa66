import Derived.Test.YtfgoplgdhnjkdaaWWords
import Derived.Test.YtfgoplgdhnjkdaaXWords
import Derived.Deep.Slices
import Derived.SizedLaws
import Derived.ChangeArms
set_option linter.unusedVariables false
set_option linter.unusedSimpArgs false
namespace Go.Proofs.YtfgoplgdhnjkdaaW.XOpen
open Go.RowKit Go.ChangeShapes Go.WideShapes Go.Deep Go.Proofs.YtfgoplgdhnjkdaaW.PrintWords Go.Proofs.YtfgoplgdhnjkdaaW.XWords

end Go.Proofs.YtfgoplgdhnjkdaaW.XOpen
