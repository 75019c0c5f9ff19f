-- Written by a program of this session (hooks of mine on the print): Lean checks it.
import Derived.Test.YtbiieeldfnjogaaProg
import Derived.Below
import Derived.Deep.Draws
import Derived.Deep.AppendLies
import Derived.Maps.AppendAt
import Derived.OwnWalk
import Derived.Laws.BytesArg
import Derived.Laws.MakeOwn
import Derived.Laws.OwnMore
import Derived.Deep.OwnRows
import Derived.Tactics
import Derived.Lib.ConvBytes
import Derived.Laws.Slices
import Derived.WalkKit
import Derived.KernelRfl
import Derived.RowKit3
import Derived.Deep.LoopGhost
import Derived.Deep.QuietTactic
import Derived.BigQuiet
import Derived.WideLaws
import Derived.Deep.DeepCutAuto
import Derived.Deep.CutBlock
import Derived.Deep.RegionHeld3
import Derived.Laws.Rows
import Derived.Lib.AppendStr
import Derived.ArgAppend
import Derived.Laws.IdiomCopy
import Derived.OrdersHeld
import Derived.Laws.BitsLemmas
import Derived.RowKit
import Derived.Test.YtbiieeldfnjogaaWWords
import Derived.Test.YtbiieeldfnjogaaWLast
import Derived.Test.YtbiieeldfnjogaaWTab
import Derived.Test.YtbiieeldfnjogaaWFour
import Derived.Test.YtbiieeldfnjogaaWQPut
import Derived.Test.YtbiieeldfnjogaaWApart
import Derived.Test.YtbiieeldfnjogaaWArr
import Derived.Test.YtbiieeldfnjogaaWZeros
import Derived.Test.YtbiieeldfnjogaaWFoot
import Derived.Test.YtbiieeldfnjogaaWKept
import Derived.Test.YtbiieeldfnjogaaWShare
import Derived.Test.YtbiieeldfnjogaaWN
import Derived.Test.YtbiieeldfnjogaaWFootNe
import Derived.Test.YtbiieeldfnjogaaWAt
import Derived.Test.YtbiieeldfnjogaaWEqStruct
import Derived.Test.YtbiieeldfnjogaaWRepsOne
import Derived.Test.YtbiieeldfnjogaaWInv
import Derived.Test.YtbiieeldfnjogaaWInvWords
import Derived.Test.YtbiieeldfnjogaaWGuard
import Derived.Test.YtbiieeldfnjogaaWNEv
import Derived.Test.YtbiieeldfnjogaaWMore
namespace Go.Proofs.Ytbiieeldfnjogaa.PFnExactFormulaText
open Go.RowKit Go.Proofs.YtbiieeldfnjogaaW.PrintWords Go.Proofs.YtbiieeldfnjogaaW.PrintLast Go.Proofs.YtbiieeldfnjogaaW.PrintMore
attribute [local go_sem] max2_int min2_int max_two min_two max_three min_three max_four min_four   -- for this text's walks alone
set_option linter.unusedVariables false
set_option linter.unusedSimpArgs false



def errW : Option Int → Value
  | none => .nilIface
  | some c => .iface 0 (.int .i64 c)
theorem errW_none : errW none = .nilIface := rfl
theorem errW_some (c : Int) : errW (some c) = .iface 0 (.int .i64 c) := rfl

theorem info3 : (Try.prog.info? 3).map (fun i => (i.zero, i.size, i.bytes)) = some (some (.int .i64 0), 1, 8) := by kernel_rfl
theorem info9 : (Try.prog.info? 9).map (fun i => (i.zero, i.size, i.bytes)) = some (some (.string ⟨#[]⟩), 1, 16) := by kernel_rfl
theorem info42 : (Try.prog.info? 42).map (fun i => (i.zero, i.size, i.bytes)) = some (some (.int .u64 0), 1, 8) := by kernel_rfl
-- the values' own types

end Go.Proofs.Ytbiieeldfnjogaa.PFnExactFormulaText
