/- The machine's side of Go functions of this seat: for each a Lean function and a proof that the call comes to what it says. Written by a program of this session (wip/xp) for this claim. -/
import Derived.Test.YtkmcaoheehkflaaProg
import Derived.Below
import Derived.Deep.Draws
import Derived.Deep.AppendLies
import Derived.Maps.AppendAt
import Derived.OwnWalk
import Derived.Laws.BytesArg
import Derived.Laws.MakeOwn
import Derived.Laws.OwnMore
import Derived.Deep.OwnRows
import Derived.Tactics
import Derived.Lib.ConvBytes
import Derived.Laws.Slices
import Derived.WalkKit
import Derived.KernelRfl
import Derived.RowKit3
import Derived.Deep.LoopGhost
import Derived.Deep.QuietTactic
import Derived.BigQuiet
import Derived.WideLaws
import Derived.Deep.DeepCutAuto
import Derived.Deep.CutBlock
import Derived.Deep.RegionHeld3
import Derived.Laws.Rows
import Derived.Lib.AppendStr
import Derived.ArgAppend
import Derived.Laws.IdiomCopy
import Derived.OrdersHeld
import Derived.Laws.BitsLemmas
import Derived.RowKit
import Derived.Test.YtkmcaoheehkflaaXWords
import Derived.Test.YtkmcaoheehkflaaWWords
import Derived.Test.YtkmcaoheehkflaaWLast
import Derived.Test.YtkmcaoheehkflaaWTab
import Derived.Test.YtkmcaoheehkflaaWFour
import Derived.Test.YtkmcaoheehkflaaWQPut
import Derived.Test.YtkmcaoheehkflaaWApart
import Derived.Test.YtkmcaoheehkflaaWArr
import Derived.Test.YtkmcaoheehkflaaWZeros
import Derived.Test.YtkmcaoheehkflaaWFoot
import Derived.Test.YtkmcaoheehkflaaWKept
import Derived.Test.YtkmcaoheehkflaaWShare
import Derived.Test.YtkmcaoheehkflaaWN
import Derived.Test.YtkmcaoheehkflaaWFootNe
import Derived.Test.YtkmcaoheehkflaaWAt
import Derived.Test.YtkmcaoheehkflaaWEqStruct
import Derived.Test.YtkmcaoheehkflaaWRepsOne
import Derived.Test.YtkmcaoheehkflaaWInv
import Derived.Test.YtkmcaoheehkflaaWInvWords
import Derived.Test.YtkmcaoheehkflaaWGuard
import Derived.Test.YtkmcaoheehkflaaWNEv
import Derived.Test.YtkmcaoheehkflaaWMore
namespace Go.Proofs.Ytkmcaoheehkflaa.Lk
open Go.RowKit Go.Proofs.YtkmcaoheehkflaaW.PrintWords Go.Proofs.YtkmcaoheehkflaaW.PrintLast Go.Proofs.YtkmcaoheehkflaaW.PrintMore
attribute [local go_sem] max2_int min2_int max_two min_two max_three min_three max_four min_four   -- for this text's walks alone
open Go.Proofs.YtkmcaoheehkflaaW.XWords
attribute [local go_sem high] binOp_fEq binOp_fNe binOp_fLt binOp_fLe binOp_fGt binOp_fGe binOp_cEq binOp_cNe unOp_fNeg unOp_cNeg equalIn_f64 equalIn_c128
attribute [local go_sem] run_real run_imag run_complex run_store_f64 run_store_c128 run_store_fn
set_option linter.unusedVariables false
set_option linter.unusedSimpArgs false



def errW : Option Int → Value
  | none => .nilIface
  | some c => .iface 0 (.int .i64 c)
theorem errW_none : errW none = .nilIface := rfl
theorem errW_some (c : Int) : errW (some c) = .iface 0 (.int .i64 c) := rfl

theorem info23 : (Try.prog.info? 23).map (fun i => (i.zero, i.size, i.bytes)) = some (some (.float .f64 0), 1, 8) := by kernel_rfl
-- the values' own types

end Go.Proofs.Ytkmcaoheehkflaa.Lk
