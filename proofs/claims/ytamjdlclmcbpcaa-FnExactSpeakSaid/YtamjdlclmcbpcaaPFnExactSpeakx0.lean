-- Written by a program of this session (hooks of mine on the print): Lean checks it.
import Derived.Test.YtamjdlclmcbpcaaProg
import Derived.Below
import Derived.Deep.Draws
import Derived.Deep.AppendLies
import Derived.Maps.AppendAt
import Derived.OwnWalk
import Derived.Laws.BytesArg
import Derived.Laws.MakeOwn
import Derived.Laws.OwnMore
import Derived.Deep.OwnRows
import Derived.Tactics
import Derived.Lib.ConvBytes
import Derived.Laws.Slices
import Derived.WalkKit
import Derived.KernelRfl
import Derived.RowKit3
import Derived.Deep.LoopGhost
import Derived.Deep.QuietTactic
import Derived.BigQuiet
import Derived.WideLaws
import Derived.Deep.DeepCutAuto
import Derived.Deep.CutBlock
import Derived.Deep.RegionHeld3
import Derived.Laws.Rows
import Derived.Lib.AppendStr
import Derived.ArgAppend
import Derived.Laws.IdiomCopy
import Derived.OrdersHeld
import Derived.Laws.BitsLemmas
import Derived.RowKit
import Derived.Test.YtamjdlclmcbpcaaWWords
import Derived.Test.YtamjdlclmcbpcaaWLast
import Derived.Test.YtamjdlclmcbpcaaWTab
import Derived.Test.YtamjdlclmcbpcaaWFour
import Derived.Test.YtamjdlclmcbpcaaWQPut
import Derived.Test.YtamjdlclmcbpcaaWApart
import Derived.Test.YtamjdlclmcbpcaaWArr
import Derived.Test.YtamjdlclmcbpcaaWZeros
import Derived.Test.YtamjdlclmcbpcaaWFoot
import Derived.Test.YtamjdlclmcbpcaaWKept
import Derived.Test.YtamjdlclmcbpcaaWShare
import Derived.Test.YtamjdlclmcbpcaaWN
import Derived.Test.YtamjdlclmcbpcaaWFootNe
import Derived.Test.YtamjdlclmcbpcaaWAt
import Derived.Test.YtamjdlclmcbpcaaWEqStruct
import Derived.Test.YtamjdlclmcbpcaaWRepsOne
import Derived.Test.YtamjdlclmcbpcaaWInv
import Derived.Test.YtamjdlclmcbpcaaWInvWords
import Derived.Test.YtamjdlclmcbpcaaWGuard
import Derived.Test.YtamjdlclmcbpcaaWNEv
import Derived.Test.YtamjdlclmcbpcaaWMore
namespace Go.Proofs.Ytamjdlclmcbpcaa.PFnExactSpeak
open Go.RowKit Go.Proofs.YtamjdlclmcbpcaaW.PrintWords Go.Proofs.YtamjdlclmcbpcaaW.PrintLast Go.Proofs.YtamjdlclmcbpcaaW.PrintMore
attribute [local go_sem] max2_int min2_int max_two min_two max_three min_three max_four min_four   -- for this text's walks alone
set_option linter.unusedVariables false
set_option linter.unusedSimpArgs false



def errW : Option Int → Value
  | none => .nilIface
  | some c => .iface 0 (.int .i64 c)
theorem errW_none : errW none = .nilIface := rfl
theorem errW_some (c : Int) : errW (some c) = .iface 0 (.int .i64 c) := rfl

-- the values' own types

end Go.Proofs.Ytamjdlclmcbpcaa.PFnExactSpeak
