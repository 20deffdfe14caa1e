-- Written by a program of this workplace (print2.py) for this claim, over the print's words.
import Derived.Test.YthfiopjabfaejaaProg
import Derived.Below
import Derived.Deep.Draws
import Derived.Deep.AppendLies
import Derived.Maps.AppendAt
import Derived.OwnWalk
import Derived.Laws.BytesArg
import Derived.Laws.MakeOwn
import Derived.Laws.OwnMore
import Derived.Deep.OwnRows
import Derived.Tactics
import Derived.Lib.ConvBytes
import Derived.Laws.Slices
import Derived.WalkKit
import Derived.KernelRfl
import Derived.RowKit3
import Derived.Deep.LoopGhost
import Derived.Deep.QuietTactic
import Derived.BigQuiet
import Derived.WideLaws
import Derived.Deep.DeepCutAuto
import Derived.Deep.CutBlock
import Derived.Deep.RegionHeld3
import Derived.Laws.Rows
import Derived.Lib.AppendStr
import Derived.ArgAppend
import Derived.Laws.IdiomCopy
import Derived.OrdersHeld
import Derived.Laws.BitsLemmas
import Derived.RowKit
import Derived.Lib.SliceRun
import Derived.Test.YthfiopjabfaejaaWWords
import Derived.Test.YthfiopjabfaejaaWLast
import Derived.Test.YthfiopjabfaejaaWTab
import Derived.Test.YthfiopjabfaejaaWFour
import Derived.Test.YthfiopjabfaejaaWQPut
import Derived.Test.YthfiopjabfaejaaWApart
import Derived.Test.YthfiopjabfaejaaWArr
import Derived.Test.YthfiopjabfaejaaWZeros
import Derived.Test.YthfiopjabfaejaaWFoot
import Derived.Test.YthfiopjabfaejaaWKept
import Derived.Test.YthfiopjabfaejaaWShare
import Derived.Test.YthfiopjabfaejaaWN
import Derived.Test.YthfiopjabfaejaaWFootNe
import Derived.Test.YthfiopjabfaejaaWAt
import Derived.Test.YthfiopjabfaejaaWEqStruct
import Derived.Test.YthfiopjabfaejaaWRepsOne
import Derived.Test.YthfiopjabfaejaaWInv
import Derived.Test.YthfiopjabfaejaaWInvWords
import Derived.Test.YthfiopjabfaejaaWGuard
import Derived.Test.YthfiopjabfaejaaWNEv
import Derived.Test.YthfiopjabfaejaaWMore
namespace Go.Proofs.Ythfiopjabfaejaa.QFnExactPutNum
open Go.RowKit Go.Proofs.YthfiopjabfaejaaW.PrintWords Go.Proofs.YthfiopjabfaejaaW.PrintLast Go.Proofs.YthfiopjabfaejaaW.PrintMore
attribute [local go_sem] max2_int min2_int max_two min_two max_three min_three max_four min_four   -- for this text's walks alone
set_option linter.unusedVariables false
set_option linter.unusedSimpArgs false



def errW : Option Int → Value
  | none => .nilIface
  | some c => .iface 0 (.int .i64 c)
theorem errW_none : errW none = .nilIface := rfl
theorem errW_some (c : Int) : errW (some c) = .iface 0 (.int .i64 c) := rfl

theorem info5 : (Try.prog.info? 5).map (fun i => (i.zero, i.size, i.bytes)) = some (some (.int .u8 0), 1, 1) := by kernel_rfl
-- the values' own types

end Go.Proofs.Ythfiopjabfaejaa.QFnExactPutNum
