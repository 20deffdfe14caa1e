-- Written by a program of this workplace (print2.py) for this claim, over the print's words.
import Derived.Test.YtgofhofcicgibaaProg
import Derived.Below
import Derived.Deep.Draws
import Derived.Deep.AppendLies
import Derived.Maps.AppendAt
import Derived.OwnWalk
import Derived.Laws.BytesArg
import Derived.Laws.MakeOwn
import Derived.Laws.OwnMore
import Derived.Deep.OwnRows
import Derived.Tactics
import Derived.Lib.ConvBytes
import Derived.Laws.Slices
import Derived.WalkKit
import Derived.KernelRfl
import Derived.RowKit3
import Derived.Deep.LoopGhost
import Derived.Deep.QuietTactic
import Derived.BigQuiet
import Derived.WideLaws
import Derived.Deep.DeepCutAuto
import Derived.Deep.CutBlock
import Derived.Deep.RegionHeld3
import Derived.Laws.Rows
import Derived.Lib.AppendStr
import Derived.ArgAppend
import Derived.Laws.IdiomCopy
import Derived.OrdersHeld
import Derived.Laws.BitsLemmas
import Derived.RowKit
import Derived.Test.YtgofhofcicgibaaWWords
import Derived.Test.YtgofhofcicgibaaWLast
import Derived.Test.YtgofhofcicgibaaWTab
import Derived.Test.YtgofhofcicgibaaWFour
import Derived.Test.YtgofhofcicgibaaWQPut
import Derived.Test.YtgofhofcicgibaaWApart
import Derived.Test.YtgofhofcicgibaaWArr
import Derived.Test.YtgofhofcicgibaaWZeros
import Derived.Test.YtgofhofcicgibaaWFoot
import Derived.Test.YtgofhofcicgibaaWKept
import Derived.Test.YtgofhofcicgibaaWShare
import Derived.Test.YtgofhofcicgibaaWN
import Derived.Test.YtgofhofcicgibaaWFootNe
import Derived.Test.YtgofhofcicgibaaWAt
import Derived.Test.YtgofhofcicgibaaWEqStruct
import Derived.Test.YtgofhofcicgibaaWRepsOne
import Derived.Test.YtgofhofcicgibaaWInv
import Derived.Test.YtgofhofcicgibaaWInvWords
import Derived.Test.YtgofhofcicgibaaWGuard
import Derived.Test.YtgofhofcicgibaaWNEv
import Derived.Test.YtgofhofcicgibaaWMore
namespace Go.Proofs.Ytgofhofcicgibaa.QFnExactGetText
open Go.RowKit Go.Proofs.YtgofhofcicgibaaW.PrintWords Go.Proofs.YtgofhofcicgibaaW.PrintLast Go.Proofs.YtgofhofcicgibaaW.PrintMore
attribute [local go_sem] max2_int min2_int max_two min_two max_three min_three max_four min_four   -- for this text's walks alone
set_option linter.unusedVariables false
set_option linter.unusedSimpArgs false



def errW : Option Int → Value
  | none => .nilIface
  | some c => .iface 0 (.int .i64 c)
theorem errW_none : errW none = .nilIface := rfl
theorem errW_some (c : Int) : errW (some c) = .iface 0 (.int .i64 c) := rfl

theorem info5 : (Try.prog.info? 5).map (fun i => (i.zero, i.size, i.bytes)) = some (some (.int .u8 0), 1, 1) := by kernel_rfl
-- the values' own types

end Go.Proofs.Ytgofhofcicgibaa.QFnExactGetText
