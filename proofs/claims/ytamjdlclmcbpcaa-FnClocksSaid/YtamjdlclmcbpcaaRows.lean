/-
  No cell of these rows narrows 'for every input' (looked for: loops, veiled, ifaces, maps, wideKeys, modest, calm, conditions, laid).
  DERIVED. THE GIVEN ROWS OF THIS SEAT. 12 by the template 'for every input the law returns true; each argument reads behind the call as it read before'; 0 by the template 'total and deterministic' (their statements: YtamjdlclmcbpcaaTotals.lean).
  GIVEN WITH THE SEED: the statements are not yours to turn. If you find one false, say at which input.
  Laid BY PROGRAM, IN A SANDBOX (cutbox-rows.mjs): the forced cells as the released guide's own fill.sh prints them over the translation 0fe135c03fde6f79… (all of the seat's roots in one cut). By AI agents, Wed Nov 11 2026. No macro, syntax, notation, axiom, sorry.
-/
import Derived.Test.YtamjdlclmcbpcaaChecked
import GoSem.Claim
import GoSem.ClaimJoined
import GoSem.ClaimMapViews
import Derived.JoinedTies
import Derived.KernelRfl
namespace Go.Proofs.Ytamjdlclmcbpcaa
/- THE CELL 'sum', in the pinned program and in every row, IS THE sha256 OF THE DUMP (.gsa) THAT YtamjdlclmcbpcaaProg.lean LOADS. Nothing in Lean hashes anything: it is a label: what it is worth is what the hold of that sum in a sandbox is worth. -/
noncomputable def Try.pinned : Pinned := { name := "ytamjdlclmcbpcaa", sum := "0fe135c03fde6f79e7cfc31d5e620499911ffdabe1afaebfd7b6be730c3d64eb", checked := Try.checked }
namespace Rows
def none {H : Type} : Left H := { results := [], args := [] }

/-- 'laws.FnExactIsSlot': WHATEVER THE INPUT: true; the input reads as it did. -/
def fnExactIsSlotSpec : ChangeSpec := { name := "fnExactIsSlot", fn := fun _ => fun
  | [d] => { results := [.lit (.bool true)], args := [d] }
  | _ => none }
def fnExactIsSlotRow : OpenClaim := { program := "ytamjdlclmcbpcaa", sum := "0fe135c03fde6f79e7cfc31d5e620499911ffdabe1afaebfd7b6be730c3d64eb", func := "loop.example/g03009/laws.FnExactIsSlot", spec := "fnExactIsSlot", apart := false }
def FnExactIsSlotSaid : Prop := fnExactIsSlotRow.holds Try.pinned (OpenSpec.ofChange fnExactIsSlotSpec)

/-- ITS FALSE NEIGHBOUR: 'it returns false'. Refute it at one input. -/
def fnExactIsSlotWrong : ChangeSpec := { name := "fnExactIsSlot", fn := fun _ => fun
  | [d] => { results := [.lit (.bool false)], args := [d] }
  | _ => none }
def FnExactIsSlotWrongFalsely : Prop := fnExactIsSlotRow.holds Try.pinned (OpenSpec.ofChange fnExactIsSlotWrong)

/-- 'laws.FnExactLeftOf': WHATEVER THE INPUT: true; the input reads as it did. -/
def fnExactLeftOfSpec : ChangeSpec := { name := "fnExactLeftOf", fn := fun _ => fun
  | [d] => { results := [.lit (.bool true)], args := [d] }
  | _ => none }
def fnExactLeftOfRow : OpenClaim := { program := "ytamjdlclmcbpcaa", sum := "0fe135c03fde6f79e7cfc31d5e620499911ffdabe1afaebfd7b6be730c3d64eb", func := "loop.example/g03009/laws.FnExactLeftOf", spec := "fnExactLeftOf", apart := false }
def FnExactLeftOfSaid : Prop := fnExactLeftOfRow.holds Try.pinned (OpenSpec.ofChange fnExactLeftOfSpec)

/-- ITS FALSE NEIGHBOUR: 'it returns false'. Refute it at one input. -/
def fnExactLeftOfWrong : ChangeSpec := { name := "fnExactLeftOf", fn := fun _ => fun
  | [d] => { results := [.lit (.bool false)], args := [d] }
  | _ => none }
def FnExactLeftOfWrongFalsely : Prop := fnExactLeftOfRow.holds Try.pinned (OpenSpec.ofChange fnExactLeftOfWrong)

/-- 'laws.FnExactOverBy': WHATEVER THE INPUT: true; the input reads as it did. -/
def fnExactOverBySpec : ChangeSpec := { name := "fnExactOverBy", fn := fun _ => fun
  | [d] => { results := [.lit (.bool true)], args := [d] }
  | _ => none }
def fnExactOverByRow : OpenClaim := { program := "ytamjdlclmcbpcaa", sum := "0fe135c03fde6f79e7cfc31d5e620499911ffdabe1afaebfd7b6be730c3d64eb", func := "loop.example/g03009/laws.FnExactOverBy", spec := "fnExactOverBy", apart := false }
def FnExactOverBySaid : Prop := fnExactOverByRow.holds Try.pinned (OpenSpec.ofChange fnExactOverBySpec)

/-- ITS FALSE NEIGHBOUR: 'it returns false'. Refute it at one input. -/
def fnExactOverByWrong : ChangeSpec := { name := "fnExactOverBy", fn := fun _ => fun
  | [d] => { results := [.lit (.bool false)], args := [d] }
  | _ => none }
def FnExactOverByWrongFalsely : Prop := fnExactOverByRow.holds Try.pinned (OpenSpec.ofChange fnExactOverByWrong)

/-- 'laws.FnExactNextAfter': WHATEVER THE INPUT: true; the input reads as it did. -/
def fnExactNextAfterSpec : ChangeSpec := { name := "fnExactNextAfter", fn := fun _ => fun
  | [d1, d2] => { results := [.lit (.bool true)], args := [d1, d2] }
  | _ => none }
def fnExactNextAfterRow : OpenClaim := { program := "ytamjdlclmcbpcaa", sum := "0fe135c03fde6f79e7cfc31d5e620499911ffdabe1afaebfd7b6be730c3d64eb", func := "loop.example/g03009/laws.FnExactNextAfter", spec := "fnExactNextAfter", apart := false }
def FnExactNextAfterSaid : Prop := fnExactNextAfterRow.holds Try.pinned (OpenSpec.ofChange fnExactNextAfterSpec)

/-- ITS FALSE NEIGHBOUR: 'it returns false'. Refute it at one input. -/
def fnExactNextAfterWrong : ChangeSpec := { name := "fnExactNextAfter", fn := fun _ => fun
  | [d1, d2] => { results := [.lit (.bool false)], args := [d1, d2] }
  | _ => none }
def FnExactNextAfterWrongFalsely : Prop := fnExactNextAfterRow.holds Try.pinned (OpenSpec.ofChange fnExactNextAfterWrong)

/-- 'laws.FnExactSpeak': WHATEVER THE INPUT: true; the input reads as it did. -/
def fnExactSpeakSpec : ChangeSpec := { name := "fnExactSpeak", fn := fun _ => fun
  | [d1, d2] => { results := [.lit (.bool true)], args := [d1, d2] }
  | _ => none }
def fnExactSpeakRow : OpenClaim := { program := "ytamjdlclmcbpcaa", sum := "0fe135c03fde6f79e7cfc31d5e620499911ffdabe1afaebfd7b6be730c3d64eb", func := "loop.example/g03009/laws.FnExactSpeak", spec := "fnExactSpeak", apart := false }
def FnExactSpeakSaid : Prop := fnExactSpeakRow.holds Try.pinned (OpenSpec.ofChange fnExactSpeakSpec)

/-- ITS FALSE NEIGHBOUR: 'it returns false'. Refute it at one input. -/
def fnExactSpeakWrong : ChangeSpec := { name := "fnExactSpeak", fn := fun _ => fun
  | [d1, d2] => { results := [.lit (.bool false)], args := [d1, d2] }
  | _ => none }
def FnExactSpeakWrongFalsely : Prop := fnExactSpeakRow.holds Try.pinned (OpenSpec.ofChange fnExactSpeakWrong)

/-- 'laws.FnExactCountOf': WHATEVER THE INPUT: true; the input reads as it did. -/
def fnExactCountOfSpec : ChangeSpec := { name := "fnExactCountOf", fn := fun _ => fun
  | [d1, d2] => { results := [.lit (.bool true)], args := [d1, d2] }
  | _ => none }
def fnExactCountOfRow : OpenClaim := { program := "ytamjdlclmcbpcaa", sum := "0fe135c03fde6f79e7cfc31d5e620499911ffdabe1afaebfd7b6be730c3d64eb", func := "loop.example/g03009/laws.FnExactCountOf", spec := "fnExactCountOf", apart := false }
def FnExactCountOfSaid : Prop := fnExactCountOfRow.holds Try.pinned (OpenSpec.ofChange fnExactCountOfSpec)

/-- ITS FALSE NEIGHBOUR: 'it returns false'. Refute it at one input. -/
def fnExactCountOfWrong : ChangeSpec := { name := "fnExactCountOf", fn := fun _ => fun
  | [d1, d2] => { results := [.lit (.bool false)], args := [d1, d2] }
  | _ => none }
def FnExactCountOfWrongFalsely : Prop := fnExactCountOfRow.holds Try.pinned (OpenSpec.ofChange fnExactCountOfWrong)

/-- 'laws.FnExactBellsAt': WHATEVER THE INPUT: true; the input reads as it did. -/
def fnExactBellsAtSpec : ChangeSpec := { name := "fnExactBellsAt", fn := fun _ => fun
  | [d] => { results := [.lit (.bool true)], args := [d] }
  | _ => none }
def fnExactBellsAtRow : OpenClaim := { program := "ytamjdlclmcbpcaa", sum := "0fe135c03fde6f79e7cfc31d5e620499911ffdabe1afaebfd7b6be730c3d64eb", func := "loop.example/g03009/laws.FnExactBellsAt", spec := "fnExactBellsAt", apart := false }
def FnExactBellsAtSaid : Prop := fnExactBellsAtRow.holds Try.pinned (OpenSpec.ofChange fnExactBellsAtSpec)

/-- ITS FALSE NEIGHBOUR: 'it returns false'. Refute it at one input. -/
def fnExactBellsAtWrong : ChangeSpec := { name := "fnExactBellsAt", fn := fun _ => fun
  | [d] => { results := [.lit (.bool false)], args := [d] }
  | _ => none }
def FnExactBellsAtWrongFalsely : Prop := fnExactBellsAtRow.holds Try.pinned (OpenSpec.ofChange fnExactBellsAtWrong)

/-- 'laws.FnExactArePoints': WHATEVER THE INPUT: true; the input reads as it did. -/
def fnExactArePointsSpec : ChangeSpec := { name := "fnExactArePoints", fn := fun _ => fun
  | [d] => { results := [.lit (.bool true)], args := [d] }
  | _ => none }
def fnExactArePointsRow : OpenClaim := { program := "ytamjdlclmcbpcaa", sum := "0fe135c03fde6f79e7cfc31d5e620499911ffdabe1afaebfd7b6be730c3d64eb", func := "loop.example/g03009/laws.FnExactArePoints", spec := "fnExactArePoints", apart := false }
def FnExactArePointsSaid : Prop := fnExactArePointsRow.holds Try.pinned (OpenSpec.ofChange fnExactArePointsSpec)

/-- ITS FALSE NEIGHBOUR: 'it returns false'. Refute it at one input. -/
def fnExactArePointsWrong : ChangeSpec := { name := "fnExactArePoints", fn := fun _ => fun
  | [d] => { results := [.lit (.bool false)], args := [d] }
  | _ => none }
def FnExactArePointsWrongFalsely : Prop := fnExactArePointsRow.holds Try.pinned (OpenSpec.ofChange fnExactArePointsWrong)

/-- 'laws.FnExactTotalUsed': WHATEVER THE INPUT: true; the input reads as it did. -/
def fnExactTotalUsedSpec : ChangeSpec := { name := "fnExactTotalUsed", fn := fun _ => fun
  | [d1, d2] => { results := [.lit (.bool true)], args := [d1, d2] }
  | _ => none }
def fnExactTotalUsedRow : OpenClaim := { program := "ytamjdlclmcbpcaa", sum := "0fe135c03fde6f79e7cfc31d5e620499911ffdabe1afaebfd7b6be730c3d64eb", func := "loop.example/g03009/laws.FnExactTotalUsed", spec := "fnExactTotalUsed", apart := false }
def FnExactTotalUsedSaid : Prop := fnExactTotalUsedRow.holds Try.pinned (OpenSpec.ofChange fnExactTotalUsedSpec)

/-- ITS FALSE NEIGHBOUR: 'it returns false'. Refute it at one input. -/
def fnExactTotalUsedWrong : ChangeSpec := { name := "fnExactTotalUsed", fn := fun _ => fun
  | [d1, d2] => { results := [.lit (.bool false)], args := [d1, d2] }
  | _ => none }
def FnExactTotalUsedWrongFalsely : Prop := fnExactTotalUsedRow.holds Try.pinned (OpenSpec.ofChange fnExactTotalUsedWrong)

/-- 'laws.FnExactWon': WHATEVER THE INPUT: true; the input reads as it did. -/
def fnExactWonSpec : ChangeSpec := { name := "fnExactWon", fn := fun _ => fun
  | [d1, d2] => { results := [.lit (.bool true)], args := [d1, d2] }
  | _ => none }
def fnExactWonRow : OpenClaim := { program := "ytamjdlclmcbpcaa", sum := "0fe135c03fde6f79e7cfc31d5e620499911ffdabe1afaebfd7b6be730c3d64eb", func := "loop.example/g03009/laws.FnExactWon", spec := "fnExactWon", apart := false }
def FnExactWonSaid : Prop := fnExactWonRow.holds Try.pinned (OpenSpec.ofChange fnExactWonSpec)

/-- ITS FALSE NEIGHBOUR: 'it returns false'. Refute it at one input. -/
def fnExactWonWrong : ChangeSpec := { name := "fnExactWon", fn := fun _ => fun
  | [d1, d2] => { results := [.lit (.bool false)], args := [d1, d2] }
  | _ => none }
def FnExactWonWrongFalsely : Prop := fnExactWonRow.holds Try.pinned (OpenSpec.ofChange fnExactWonWrong)

/-- 'laws.FnExactIsSettled': WHATEVER THE INPUT: true; the input reads as it did. -/
def fnExactIsSettledSpec : ChangeSpec := { name := "fnExactIsSettled", fn := fun _ => fun
  | [d] => { results := [.lit (.bool true)], args := [d] }
  | _ => none }
def fnExactIsSettledRow : OpenClaim := { program := "ytamjdlclmcbpcaa", sum := "0fe135c03fde6f79e7cfc31d5e620499911ffdabe1afaebfd7b6be730c3d64eb", func := "loop.example/g03009/laws.FnExactIsSettled", spec := "fnExactIsSettled", apart := false }
def FnExactIsSettledSaid : Prop := fnExactIsSettledRow.holds Try.pinned (OpenSpec.ofChange fnExactIsSettledSpec)

/-- ITS FALSE NEIGHBOUR: 'it returns false'. Refute it at one input. -/
def fnExactIsSettledWrong : ChangeSpec := { name := "fnExactIsSettled", fn := fun _ => fun
  | [d] => { results := [.lit (.bool false)], args := [d] }
  | _ => none }
def FnExactIsSettledWrongFalsely : Prop := fnExactIsSettledRow.holds Try.pinned (OpenSpec.ofChange fnExactIsSettledWrong)

/-- 'laws.FnClocks': WHATEVER THE INPUT: true; the input reads as it did. -/
def fnClocksSpec : ChangeSpec := { name := "fnClocks", fn := fun _ => fun
  | [d] => { results := [.lit (.bool true)], args := [d] }
  | _ => none }
def fnClocksRow : OpenClaim := { program := "ytamjdlclmcbpcaa", sum := "0fe135c03fde6f79e7cfc31d5e620499911ffdabe1afaebfd7b6be730c3d64eb", func := "loop.example/g03009/laws.FnClocks", spec := "fnClocks", apart := false }
def FnClocksSaid : Prop := fnClocksRow.holds Try.pinned (OpenSpec.ofChange fnClocksSpec)

/-- ITS FALSE NEIGHBOUR: 'it returns false'. Refute it at one input. -/
def fnClocksWrong : ChangeSpec := { name := "fnClocks", fn := fun _ => fun
  | [d] => { results := [.lit (.bool false)], args := [d] }
  | _ => none }
def FnClocksWrongFalsely : Prop := fnClocksRow.holds Try.pinned (OpenSpec.ofChange fnClocksWrong)

/- THE SECOND FORM. 'bulk': how many values and letters a reading holds, each counted each time it is reached (what is shared counts as often as it is met; a slice's spare places count too). A statement '..UptoSaid' is the law's where the arguments, and the package variables that the reading takes, are together of bulk at most 1048576: NARROWER than '..Said'. Prove '..Said' where nothing that the law and all that it calls make is longer than what came in: it says more and counts as full. Else prove '..UptoSaid'. A law counts once. -/
mutual
def uptoBulk {H : Type} : DataW H → Nat
  | .lit (.string bytes) => bytes.length + 1
  | .lit _ => 1
  | .nil => 1
  | .ptr d => uptoBulk d + 1
  | .slice elems spare => uptoBulkAll elems + uptoBulkAll spare + 1
  | .agg parts => uptoBulkAll parts + 1
  | .iface _ d => uptoBulk d + 1
  | .map entries => uptoBulkEntries entries + 1
  | .held _ => 1
def uptoBulkAll {H : Type} : List (DataW H) → Nat
  | [] => 0
  | d :: r => uptoBulk d + uptoBulkAll r
def uptoBulkEntries {H : Type} : List (Lit × DataW H) → Nat
  | [] => 0
  | x :: r => uptoBulkEntry x + uptoBulkEntries r
def uptoBulkEntry {H : Type} : Lit × DataW H → Nat
  | (.string bytes, d) => bytes.length + uptoBulk d + 1
  | (_, d) => uptoBulk d + 1
 end
def uptoSmall : (H : Type) → List (DataW H) → Bool := fun _ ds => decide (uptoBulkAll ds ≤ 1048576)
def OpenSpec.upto (s : _root_.Go.ChangeSpec) : _root_.Go.OpenSpec := { _root_.Go.OpenSpec.ofChange s with cond := some uptoSmall }

/-- 'laws.FnExactIsSlot', WHERE WHAT IT READS IS OF BULK AT MOST 1048576: true; the input reads as it did. -/
def fnExactIsSlotUptoRow : OpenClaim := { program := "ytamjdlclmcbpcaa", sum := "0fe135c03fde6f79e7cfc31d5e620499911ffdabe1afaebfd7b6be730c3d64eb", func := "loop.example/g03009/laws.FnExactIsSlot", spec := "fnExactIsSlot", apart := false, narrowed := true }
def FnExactIsSlotUptoSaid : Prop := fnExactIsSlotUptoRow.holds Try.pinned (OpenSpec.upto fnExactIsSlotSpec)

/-- 'laws.FnExactLeftOf', WHERE WHAT IT READS IS OF BULK AT MOST 1048576: true; the input reads as it did. -/
def fnExactLeftOfUptoRow : OpenClaim := { program := "ytamjdlclmcbpcaa", sum := "0fe135c03fde6f79e7cfc31d5e620499911ffdabe1afaebfd7b6be730c3d64eb", func := "loop.example/g03009/laws.FnExactLeftOf", spec := "fnExactLeftOf", apart := false, narrowed := true }
def FnExactLeftOfUptoSaid : Prop := fnExactLeftOfUptoRow.holds Try.pinned (OpenSpec.upto fnExactLeftOfSpec)

/-- 'laws.FnExactOverBy', WHERE WHAT IT READS IS OF BULK AT MOST 1048576: true; the input reads as it did. -/
def fnExactOverByUptoRow : OpenClaim := { program := "ytamjdlclmcbpcaa", sum := "0fe135c03fde6f79e7cfc31d5e620499911ffdabe1afaebfd7b6be730c3d64eb", func := "loop.example/g03009/laws.FnExactOverBy", spec := "fnExactOverBy", apart := false, narrowed := true }
def FnExactOverByUptoSaid : Prop := fnExactOverByUptoRow.holds Try.pinned (OpenSpec.upto fnExactOverBySpec)

/-- 'laws.FnExactNextAfter', WHERE WHAT IT READS IS OF BULK AT MOST 1048576: true; the input reads as it did. -/
def fnExactNextAfterUptoRow : OpenClaim := { program := "ytamjdlclmcbpcaa", sum := "0fe135c03fde6f79e7cfc31d5e620499911ffdabe1afaebfd7b6be730c3d64eb", func := "loop.example/g03009/laws.FnExactNextAfter", spec := "fnExactNextAfter", apart := false, narrowed := true }
def FnExactNextAfterUptoSaid : Prop := fnExactNextAfterUptoRow.holds Try.pinned (OpenSpec.upto fnExactNextAfterSpec)

/-- 'laws.FnExactSpeak', WHERE WHAT IT READS IS OF BULK AT MOST 1048576: true; the input reads as it did. -/
def fnExactSpeakUptoRow : OpenClaim := { program := "ytamjdlclmcbpcaa", sum := "0fe135c03fde6f79e7cfc31d5e620499911ffdabe1afaebfd7b6be730c3d64eb", func := "loop.example/g03009/laws.FnExactSpeak", spec := "fnExactSpeak", apart := false, narrowed := true }
def FnExactSpeakUptoSaid : Prop := fnExactSpeakUptoRow.holds Try.pinned (OpenSpec.upto fnExactSpeakSpec)

/-- 'laws.FnExactCountOf', WHERE WHAT IT READS IS OF BULK AT MOST 1048576: true; the input reads as it did. -/
def fnExactCountOfUptoRow : OpenClaim := { program := "ytamjdlclmcbpcaa", sum := "0fe135c03fde6f79e7cfc31d5e620499911ffdabe1afaebfd7b6be730c3d64eb", func := "loop.example/g03009/laws.FnExactCountOf", spec := "fnExactCountOf", apart := false, narrowed := true }
def FnExactCountOfUptoSaid : Prop := fnExactCountOfUptoRow.holds Try.pinned (OpenSpec.upto fnExactCountOfSpec)

/-- 'laws.FnExactBellsAt', WHERE WHAT IT READS IS OF BULK AT MOST 1048576: true; the input reads as it did. -/
def fnExactBellsAtUptoRow : OpenClaim := { program := "ytamjdlclmcbpcaa", sum := "0fe135c03fde6f79e7cfc31d5e620499911ffdabe1afaebfd7b6be730c3d64eb", func := "loop.example/g03009/laws.FnExactBellsAt", spec := "fnExactBellsAt", apart := false, narrowed := true }
def FnExactBellsAtUptoSaid : Prop := fnExactBellsAtUptoRow.holds Try.pinned (OpenSpec.upto fnExactBellsAtSpec)

/-- 'laws.FnExactArePoints', WHERE WHAT IT READS IS OF BULK AT MOST 1048576: true; the input reads as it did. -/
def fnExactArePointsUptoRow : OpenClaim := { program := "ytamjdlclmcbpcaa", sum := "0fe135c03fde6f79e7cfc31d5e620499911ffdabe1afaebfd7b6be730c3d64eb", func := "loop.example/g03009/laws.FnExactArePoints", spec := "fnExactArePoints", apart := false, narrowed := true }
def FnExactArePointsUptoSaid : Prop := fnExactArePointsUptoRow.holds Try.pinned (OpenSpec.upto fnExactArePointsSpec)

/-- 'laws.FnExactTotalUsed', WHERE WHAT IT READS IS OF BULK AT MOST 1048576: true; the input reads as it did. -/
def fnExactTotalUsedUptoRow : OpenClaim := { program := "ytamjdlclmcbpcaa", sum := "0fe135c03fde6f79e7cfc31d5e620499911ffdabe1afaebfd7b6be730c3d64eb", func := "loop.example/g03009/laws.FnExactTotalUsed", spec := "fnExactTotalUsed", apart := false, narrowed := true }
def FnExactTotalUsedUptoSaid : Prop := fnExactTotalUsedUptoRow.holds Try.pinned (OpenSpec.upto fnExactTotalUsedSpec)

/-- 'laws.FnExactWon', WHERE WHAT IT READS IS OF BULK AT MOST 1048576: true; the input reads as it did. -/
def fnExactWonUptoRow : OpenClaim := { program := "ytamjdlclmcbpcaa", sum := "0fe135c03fde6f79e7cfc31d5e620499911ffdabe1afaebfd7b6be730c3d64eb", func := "loop.example/g03009/laws.FnExactWon", spec := "fnExactWon", apart := false, narrowed := true }
def FnExactWonUptoSaid : Prop := fnExactWonUptoRow.holds Try.pinned (OpenSpec.upto fnExactWonSpec)

/-- 'laws.FnExactIsSettled', WHERE WHAT IT READS IS OF BULK AT MOST 1048576: true; the input reads as it did. -/
def fnExactIsSettledUptoRow : OpenClaim := { program := "ytamjdlclmcbpcaa", sum := "0fe135c03fde6f79e7cfc31d5e620499911ffdabe1afaebfd7b6be730c3d64eb", func := "loop.example/g03009/laws.FnExactIsSettled", spec := "fnExactIsSettled", apart := false, narrowed := true }
def FnExactIsSettledUptoSaid : Prop := fnExactIsSettledUptoRow.holds Try.pinned (OpenSpec.upto fnExactIsSettledSpec)

/-- 'laws.FnClocks', WHERE WHAT IT READS IS OF BULK AT MOST 1048576: true; the input reads as it did. -/
def fnClocksUptoRow : OpenClaim := { program := "ytamjdlclmcbpcaa", sum := "0fe135c03fde6f79e7cfc31d5e620499911ffdabe1afaebfd7b6be730c3d64eb", func := "loop.example/g03009/laws.FnClocks", spec := "fnClocks", apart := false, narrowed := true }
def FnClocksUptoSaid : Prop := fnClocksUptoRow.holds Try.pinned (OpenSpec.upto fnClocksSpec)

end Rows
end Go.Proofs.Ytamjdlclmcbpcaa
