-- Written by a program of this session (hooks of mine on the print): Lean checks it.
import Derived.Test.YtbiieeldfnjogaaDoorProg
import Derived.Below
import Derived.Deep.Draws
import Derived.Deep.AppendLies
import Derived.Maps.AppendAt
import Derived.OwnWalk
import Derived.Laws.BytesArg
import Derived.Laws.MakeOwn
import Derived.Laws.OwnMore
import Derived.Deep.OwnRows
import Derived.Tactics
import Derived.Lib.ConvBytes
import Derived.Laws.Slices
import Derived.WalkKit
import Derived.KernelRfl
import Derived.RowKit3
import Derived.Deep.LoopGhost
import Derived.Deep.QuietTactic
import Derived.BigQuiet
import Derived.WideLaws
import Derived.Deep.DeepCutAuto
import Derived.Deep.CutBlock
import Derived.Deep.RegionHeld3
import Derived.Laws.Rows
import Derived.Lib.AppendStr
import Derived.ArgAppend
import Derived.Laws.IdiomCopy
import Derived.OrdersHeld
import Derived.Laws.BitsLemmas
import Derived.RowKit
import Derived.Shelf.Spec.TrailingZeros
import Derived.Test.YtbiieeldfnjogaaDoorWWords
import Derived.Test.YtbiieeldfnjogaaDoorWLast
import Derived.Test.YtbiieeldfnjogaaDoorWTab
import Derived.Test.YtbiieeldfnjogaaDoorWFour
import Derived.Test.YtbiieeldfnjogaaDoorWQPut
import Derived.Test.YtbiieeldfnjogaaDoorWApart
import Derived.Test.YtbiieeldfnjogaaDoorWArr
import Derived.Test.YtbiieeldfnjogaaDoorWZeros
import Derived.Test.YtbiieeldfnjogaaDoorWFoot
import Derived.Test.YtbiieeldfnjogaaDoorWKept
import Derived.Test.YtbiieeldfnjogaaDoorWShare
import Derived.Test.YtbiieeldfnjogaaDoorWN
import Derived.Test.YtbiieeldfnjogaaDoorWFootNe
import Derived.Test.YtbiieeldfnjogaaDoorWAt
import Derived.Test.YtbiieeldfnjogaaDoorWEqStruct
import Derived.Test.YtbiieeldfnjogaaDoorWRepsOne
import Derived.Test.YtbiieeldfnjogaaDoorWInv
import Derived.Test.YtbiieeldfnjogaaDoorWInvWords
import Derived.Test.YtbiieeldfnjogaaDoorWGuard
import Derived.Test.YtbiieeldfnjogaaDoorWNEv
import Derived.Test.YtbiieeldfnjogaaDoorWMore
namespace Go.Proofs.YtbiieeldfnjogaaDoor.PFnExactFirstRow
open Go.RowKit Go.Proofs.YtbiieeldfnjogaaDoorW.PrintWords Go.Proofs.YtbiieeldfnjogaaDoorW.PrintLast Go.Proofs.YtbiieeldfnjogaaDoorW.PrintMore
attribute [local go_sem] max2_int min2_int max_two min_two max_three min_three max_four min_four   -- for this text's walks alone
set_option linter.unusedVariables false
set_option linter.unusedSimpArgs false



def errW : Option Int → Value
  | none => .nilIface
  | some c => .iface 0 (.int .i64 c)
theorem errW_none : errW none = .nilIface := rfl
theorem errW_some (c : Int) : errW (some c) = .iface 0 (.int .i64 c) := rfl

theorem info3 : (Tryd.prog.info? 3).map (fun i => (i.zero, i.size, i.bytes)) = some (some (.int .i64 0), 1, 8) := by kernel_rfl
theorem info4 : (Tryd.prog.info? 4).map (fun i => (i.zero, i.size, i.bytes)) = some (some (.bool false), 1, 1) := by kernel_rfl
theorem info30 : (Tryd.prog.info? 30).map (fun i => (i.zero, i.size, i.bytes)) = some (some (.int .u64 0), 1, 8) := by kernel_rfl
-- the values' own types

end Go.Proofs.YtbiieeldfnjogaaDoor.PFnExactFirstRow
