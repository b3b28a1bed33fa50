-- Written by wip/xprint.py, a program of mine, out of the translation; Lean checks it.
import Derived.Test.YtkoeeplplmiikaaProg
import Derived.Below
import Derived.Deep.Draws
import Derived.Deep.AppendLies
import Derived.Maps.AppendAt
import Derived.OwnWalk
import Derived.Laws.BytesArg
import Derived.Laws.MakeOwn
import Derived.Laws.OwnMore
import Derived.Deep.OwnRows
import Derived.Tactics
import Derived.Lib.ConvBytes
import Derived.Laws.Slices
import Derived.WalkKit
import Derived.KernelRfl
import Derived.RowKit3
import Derived.Deep.LoopGhost
import Derived.Deep.QuietTactic
import Derived.BigQuiet
import Derived.WideLaws
import Derived.Deep.DeepCutAuto
import Derived.Deep.CutBlock
import Derived.Deep.RegionHeld3
import Derived.Laws.Rows
import Derived.Lib.AppendStr
import Derived.ArgAppend
import Derived.Laws.IdiomCopy
import Derived.OrdersHeld
import Derived.Laws.BitsLemmas
import Derived.RowKit
import Derived.Lib.BitFns
import Derived.Lib.Slices
import Derived.Lib.Small
import Derived.Lib.Strings
import Derived.Lib.Walk
import Derived.Test.YtkoeeplplmiikaaWWords
import Derived.Test.YtkoeeplplmiikaaWLast
import Derived.Test.YtkoeeplplmiikaaWTab
import Derived.Test.YtkoeeplplmiikaaWFour
import Derived.Test.YtkoeeplplmiikaaWQPut
import Derived.Test.YtkoeeplplmiikaaWApart
import Derived.Test.YtkoeeplplmiikaaWArr
import Derived.Test.YtkoeeplplmiikaaWZeros
import Derived.Test.YtkoeeplplmiikaaWFoot
import Derived.Test.YtkoeeplplmiikaaWKept
import Derived.Test.YtkoeeplplmiikaaWShare
import Derived.Test.YtkoeeplplmiikaaWN
import Derived.Test.YtkoeeplplmiikaaWFootNe
import Derived.Test.YtkoeeplplmiikaaWAt
import Derived.Test.YtkoeeplplmiikaaWEqStruct
import Derived.Test.YtkoeeplplmiikaaWRepsOne
import Derived.Test.YtkoeeplplmiikaaWInv
import Derived.Test.YtkoeeplplmiikaaWInvWords
import Derived.Test.YtkoeeplplmiikaaWGuard
import Derived.Test.YtkoeeplplmiikaaWNEv
import Derived.Test.YtkoeeplplmiikaaWMore
namespace Go.Proofs.Ytkoeeplplmiikaa.PCostPasses
open Go.RowKit Go.Proofs.YtkoeeplplmiikaaW.PrintWords Go.Proofs.YtkoeeplplmiikaaW.PrintLast Go.Proofs.YtkoeeplplmiikaaW.PrintMore
attribute [local go_sem] max2_int min2_int max_two min_two max_three min_three max_four min_four   -- for this text's walks alone
set_option linter.unusedVariables false
set_option linter.unusedSimpArgs false
set_option maxRecDepth 100000



def errW : Option Int → Value
  | none => .nilIface
  | some c => .iface 0 (.int .i64 c)
theorem errW_none : errW none = .nilIface := rfl
theorem errW_some (c : Int) : errW (some c) = .iface 0 (.int .i64 c) := rfl

theorem info3 : (Try.prog.info? 3).map (fun i => (i.zero, i.size, i.bytes)) = some (some (.int .i64 0), 1, 8) := by kernel_rfl
-- the values' own types

end Go.Proofs.Ytkoeeplplmiikaa.PCostPasses
