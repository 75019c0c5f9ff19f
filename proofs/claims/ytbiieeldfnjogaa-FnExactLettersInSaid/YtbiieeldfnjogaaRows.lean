/-
  No cell of these rows narrows 'for every input' (looked for: loops, veiled, ifaces, maps, wideKeys, modest, calm, conditions, laid).
  DERIVED. THE GIVEN ROWS OF THIS SEAT. 11 by the template 'for every input the law returns true; each argument reads behind the call as it read before'; 0 by the template 'total and deterministic' (their statements: YtbiieeldfnjogaaTotals.lean).
  GIVEN WITH THE SEED: the statements are not yours to turn. If you find one false, say at which input.
  Laid BY PROGRAM, IN A SANDBOX (cutbox-rows.mjs): the forced cells as the released guide's own fill.sh prints them over the translation 04a8a58a8a9d605f… (all of the seat's roots in one cut). By AI agents, Wed Nov 11 2026. No macro, syntax, notation, axiom, sorry.
-/
import Derived.Test.YtbiieeldfnjogaaChecked
import GoSem.Claim
import GoSem.ClaimJoined
import GoSem.ClaimMapViews
import Derived.JoinedTies
import Derived.KernelRfl
namespace Go.Proofs.Ytbiieeldfnjogaa
/- THE CELL 'sum', in the pinned program and in every row, IS THE sha256 OF THE DUMP (.gsa) THAT YtbiieeldfnjogaaProg.lean LOADS. Nothing in Lean hashes anything: it is a label: what it is worth is what the hold of that sum in a sandbox is worth. -/
noncomputable def Try.pinned : Pinned := { name := "ytbiieeldfnjogaa", sum := "04a8a58a8a9d605fb9091100ae38ed6ac57c7f9f7c4561e2fdca320176d45d51", checked := Try.checked }
namespace Rows
def none {H : Type} : Left H := { results := [], args := [] }

/-- 'laws.FnExactIsFormula': WHATEVER THE INPUT: true; the input reads as it did. -/
def fnExactIsFormulaSpec : ChangeSpec := { name := "fnExactIsFormula", fn := fun _ => fun
  | [d] => { results := [.lit (.bool true)], args := [d] }
  | _ => none }
def fnExactIsFormulaRow : OpenClaim := { program := "ytbiieeldfnjogaa", sum := "04a8a58a8a9d605fb9091100ae38ed6ac57c7f9f7c4561e2fdca320176d45d51", func := "loop.example/g03009/laws.FnExactIsFormula", spec := "fnExactIsFormula", apart := false }
def FnExactIsFormulaSaid : Prop := fnExactIsFormulaRow.holds Try.pinned (OpenSpec.ofChange fnExactIsFormulaSpec)

/-- ITS FALSE NEIGHBOUR: 'it returns false'. Refute it at one input. -/
def fnExactIsFormulaWrong : ChangeSpec := { name := "fnExactIsFormula", fn := fun _ => fun
  | [d] => { results := [.lit (.bool false)], args := [d] }
  | _ => none }
def FnExactIsFormulaWrongFalsely : Prop := fnExactIsFormulaRow.holds Try.pinned (OpenSpec.ofChange fnExactIsFormulaWrong)

/-- 'laws.FnExactFormulaText': WHATEVER THE INPUT: true; the input reads as it did. -/
def fnExactFormulaTextSpec : ChangeSpec := { name := "fnExactFormulaText", fn := fun _ => fun
  | [d] => { results := [.lit (.bool true)], args := [d] }
  | _ => none }
def fnExactFormulaTextRow : OpenClaim := { program := "ytbiieeldfnjogaa", sum := "04a8a58a8a9d605fb9091100ae38ed6ac57c7f9f7c4561e2fdca320176d45d51", func := "loop.example/g03009/laws.FnExactFormulaText", spec := "fnExactFormulaText", apart := false }
def FnExactFormulaTextSaid : Prop := fnExactFormulaTextRow.holds Try.pinned (OpenSpec.ofChange fnExactFormulaTextSpec)

/-- ITS FALSE NEIGHBOUR: 'it returns false'. Refute it at one input. -/
def fnExactFormulaTextWrong : ChangeSpec := { name := "fnExactFormulaText", fn := fun _ => fun
  | [d] => { results := [.lit (.bool false)], args := [d] }
  | _ => none }
def FnExactFormulaTextWrongFalsely : Prop := fnExactFormulaTextRow.holds Try.pinned (OpenSpec.ofChange fnExactFormulaTextWrong)

/-- 'laws.FnExactAreAlike': WHATEVER THE INPUT: true; the input reads as it did. -/
def fnExactAreAlikeSpec : ChangeSpec := { name := "fnExactAreAlike", fn := fun _ => fun
  | [d1, d2] => { results := [.lit (.bool true)], args := [d1, d2] }
  | _ => none }
def fnExactAreAlikeRow : OpenClaim := { program := "ytbiieeldfnjogaa", sum := "04a8a58a8a9d605fb9091100ae38ed6ac57c7f9f7c4561e2fdca320176d45d51", func := "loop.example/g03009/laws.FnExactAreAlike", spec := "fnExactAreAlike", apart := false }
def FnExactAreAlikeSaid : Prop := fnExactAreAlikeRow.holds Try.pinned (OpenSpec.ofChange fnExactAreAlikeSpec)

/-- ITS FALSE NEIGHBOUR: 'it returns false'. Refute it at one input. -/
def fnExactAreAlikeWrong : ChangeSpec := { name := "fnExactAreAlike", fn := fun _ => fun
  | [d1, d2] => { results := [.lit (.bool false)], args := [d1, d2] }
  | _ => none }
def FnExactAreAlikeWrongFalsely : Prop := fnExactAreAlikeRow.holds Try.pinned (OpenSpec.ofChange fnExactAreAlikeWrong)

/-- 'laws.FnExactIsAlways': WHATEVER THE INPUT: true; the input reads as it did. -/
def fnExactIsAlwaysSpec : ChangeSpec := { name := "fnExactIsAlways", fn := fun _ => fun
  | [d] => { results := [.lit (.bool true)], args := [d] }
  | _ => none }
def fnExactIsAlwaysRow : OpenClaim := { program := "ytbiieeldfnjogaa", sum := "04a8a58a8a9d605fb9091100ae38ed6ac57c7f9f7c4561e2fdca320176d45d51", func := "loop.example/g03009/laws.FnExactIsAlways", spec := "fnExactIsAlways", apart := false }
def FnExactIsAlwaysSaid : Prop := fnExactIsAlwaysRow.holds Try.pinned (OpenSpec.ofChange fnExactIsAlwaysSpec)

/-- ITS FALSE NEIGHBOUR: 'it returns false'. Refute it at one input. -/
def fnExactIsAlwaysWrong : ChangeSpec := { name := "fnExactIsAlways", fn := fun _ => fun
  | [d] => { results := [.lit (.bool false)], args := [d] }
  | _ => none }
def FnExactIsAlwaysWrongFalsely : Prop := fnExactIsAlwaysRow.holds Try.pinned (OpenSpec.ofChange fnExactIsAlwaysWrong)

/-- 'laws.FnExactValue': WHATEVER THE INPUT: true; the input reads as it did. -/
def fnExactValueSpec : ChangeSpec := { name := "fnExactValue", fn := fun _ => fun
  | [d1, d2] => { results := [.lit (.bool true)], args := [d1, d2] }
  | _ => none }
def fnExactValueRow : OpenClaim := { program := "ytbiieeldfnjogaa", sum := "04a8a58a8a9d605fb9091100ae38ed6ac57c7f9f7c4561e2fdca320176d45d51", func := "loop.example/g03009/laws.FnExactValue", spec := "fnExactValue", apart := false }
def FnExactValueSaid : Prop := fnExactValueRow.holds Try.pinned (OpenSpec.ofChange fnExactValueSpec)

/-- ITS FALSE NEIGHBOUR: 'it returns false'. Refute it at one input. -/
def fnExactValueWrong : ChangeSpec := { name := "fnExactValue", fn := fun _ => fun
  | [d1, d2] => { results := [.lit (.bool false)], args := [d1, d2] }
  | _ => none }
def FnExactValueWrongFalsely : Prop := fnExactValueRow.holds Try.pinned (OpenSpec.ofChange fnExactValueWrong)

/-- 'laws.FnExactJoin': WHATEVER THE INPUT: true; the input reads as it did. -/
def fnExactJoinSpec : ChangeSpec := { name := "fnExactJoin", fn := fun _ => fun
  | [d1, d2, d3] => { results := [.lit (.bool true)], args := [d1, d2, d3] }
  | _ => none }
def fnExactJoinRow : OpenClaim := { program := "ytbiieeldfnjogaa", sum := "04a8a58a8a9d605fb9091100ae38ed6ac57c7f9f7c4561e2fdca320176d45d51", func := "loop.example/g03009/laws.FnExactJoin", spec := "fnExactJoin", apart := false }
def FnExactJoinSaid : Prop := fnExactJoinRow.holds Try.pinned (OpenSpec.ofChange fnExactJoinSpec)

/-- ITS FALSE NEIGHBOUR: 'it returns false'. Refute it at one input. -/
def fnExactJoinWrong : ChangeSpec := { name := "fnExactJoin", fn := fun _ => fun
  | [d1, d2, d3] => { results := [.lit (.bool false)], args := [d1, d2, d3] }
  | _ => none }
def FnExactJoinWrongFalsely : Prop := fnExactJoinRow.holds Try.pinned (OpenSpec.ofChange fnExactJoinWrong)

/-- 'laws.FnExactNotOf': WHATEVER THE INPUT: true; the input reads as it did. -/
def fnExactNotOfSpec : ChangeSpec := { name := "fnExactNotOf", fn := fun _ => fun
  | [d] => { results := [.lit (.bool true)], args := [d] }
  | _ => none }
def fnExactNotOfRow : OpenClaim := { program := "ytbiieeldfnjogaa", sum := "04a8a58a8a9d605fb9091100ae38ed6ac57c7f9f7c4561e2fdca320176d45d51", func := "loop.example/g03009/laws.FnExactNotOf", spec := "fnExactNotOf", apart := false }
def FnExactNotOfSaid : Prop := fnExactNotOfRow.holds Try.pinned (OpenSpec.ofChange fnExactNotOfSpec)

/-- ITS FALSE NEIGHBOUR: 'it returns false'. Refute it at one input. -/
def fnExactNotOfWrong : ChangeSpec := { name := "fnExactNotOf", fn := fun _ => fun
  | [d] => { results := [.lit (.bool false)], args := [d] }
  | _ => none }
def FnExactNotOfWrongFalsely : Prop := fnExactNotOfRow.holds Try.pinned (OpenSpec.ofChange fnExactNotOfWrong)

/-- 'laws.FnExactCountRows': WHATEVER THE INPUT: true; the input reads as it did. -/
def fnExactCountRowsSpec : ChangeSpec := { name := "fnExactCountRows", fn := fun _ => fun
  | [d] => { results := [.lit (.bool true)], args := [d] }
  | _ => none }
def fnExactCountRowsRow : OpenClaim := { program := "ytbiieeldfnjogaa", sum := "04a8a58a8a9d605fb9091100ae38ed6ac57c7f9f7c4561e2fdca320176d45d51", func := "loop.example/g03009/laws.FnExactCountRows", spec := "fnExactCountRows", apart := false }
def FnExactCountRowsSaid : Prop := fnExactCountRowsRow.holds Try.pinned (OpenSpec.ofChange fnExactCountRowsSpec)

/-- ITS FALSE NEIGHBOUR: 'it returns false'. Refute it at one input. -/
def fnExactCountRowsWrong : ChangeSpec := { name := "fnExactCountRows", fn := fun _ => fun
  | [d] => { results := [.lit (.bool false)], args := [d] }
  | _ => none }
def FnExactCountRowsWrongFalsely : Prop := fnExactCountRowsRow.holds Try.pinned (OpenSpec.ofChange fnExactCountRowsWrong)

/-- 'laws.FnExactCanHold': WHATEVER THE INPUT: true; the input reads as it did. -/
def fnExactCanHoldSpec : ChangeSpec := { name := "fnExactCanHold", fn := fun _ => fun
  | [d] => { results := [.lit (.bool true)], args := [d] }
  | _ => none }
def fnExactCanHoldRow : OpenClaim := { program := "ytbiieeldfnjogaa", sum := "04a8a58a8a9d605fb9091100ae38ed6ac57c7f9f7c4561e2fdca320176d45d51", func := "loop.example/g03009/laws.FnExactCanHold", spec := "fnExactCanHold", apart := false }
def FnExactCanHoldSaid : Prop := fnExactCanHoldRow.holds Try.pinned (OpenSpec.ofChange fnExactCanHoldSpec)

/-- ITS FALSE NEIGHBOUR: 'it returns false'. Refute it at one input. -/
def fnExactCanHoldWrong : ChangeSpec := { name := "fnExactCanHold", fn := fun _ => fun
  | [d] => { results := [.lit (.bool false)], args := [d] }
  | _ => none }
def FnExactCanHoldWrongFalsely : Prop := fnExactCanHoldRow.holds Try.pinned (OpenSpec.ofChange fnExactCanHoldWrong)

/-- 'laws.FnExactFollows': WHATEVER THE INPUT: true; the input reads as it did. -/
def fnExactFollowsSpec : ChangeSpec := { name := "fnExactFollows", fn := fun _ => fun
  | [d1, d2] => { results := [.lit (.bool true)], args := [d1, d2] }
  | _ => none }
def fnExactFollowsRow : OpenClaim := { program := "ytbiieeldfnjogaa", sum := "04a8a58a8a9d605fb9091100ae38ed6ac57c7f9f7c4561e2fdca320176d45d51", func := "loop.example/g03009/laws.FnExactFollows", spec := "fnExactFollows", apart := false }
def FnExactFollowsSaid : Prop := fnExactFollowsRow.holds Try.pinned (OpenSpec.ofChange fnExactFollowsSpec)

/-- ITS FALSE NEIGHBOUR: 'it returns false'. Refute it at one input. -/
def fnExactFollowsWrong : ChangeSpec := { name := "fnExactFollows", fn := fun _ => fun
  | [d1, d2] => { results := [.lit (.bool false)], args := [d1, d2] }
  | _ => none }
def FnExactFollowsWrongFalsely : Prop := fnExactFollowsRow.holds Try.pinned (OpenSpec.ofChange fnExactFollowsWrong)

/-- 'laws.FnExactLettersIn': WHATEVER THE INPUT: true; the input reads as it did. -/
def fnExactLettersInSpec : ChangeSpec := { name := "fnExactLettersIn", fn := fun _ => fun
  | [d] => { results := [.lit (.bool true)], args := [d] }
  | _ => none }
def fnExactLettersInRow : OpenClaim := { program := "ytbiieeldfnjogaa", sum := "04a8a58a8a9d605fb9091100ae38ed6ac57c7f9f7c4561e2fdca320176d45d51", func := "loop.example/g03009/laws.FnExactLettersIn", spec := "fnExactLettersIn", recurses := true, apart := false }
def FnExactLettersInSaid : Prop := fnExactLettersInRow.holds Try.pinned (OpenSpec.ofChange fnExactLettersInSpec)

/-- ITS FALSE NEIGHBOUR: 'it returns false'. Refute it at one input. -/
def fnExactLettersInWrong : ChangeSpec := { name := "fnExactLettersIn", fn := fun _ => fun
  | [d] => { results := [.lit (.bool false)], args := [d] }
  | _ => none }
def FnExactLettersInWrongFalsely : Prop := fnExactLettersInRow.holds Try.pinned (OpenSpec.ofChange fnExactLettersInWrong)

/- THE SECOND FORM. 'bulk': how many values and letters a reading holds, each counted each time it is reached (what is shared counts as often as it is met; a slice's spare places count too). A statement '..UptoSaid' is the law's where the arguments, and the package variables that the reading takes, are together of bulk at most 1048576: NARROWER than '..Said'. Prove '..Said' where nothing that the law and all that it calls make is longer than what came in: it says more and counts as full. Else prove '..UptoSaid'. A law counts once. -/
mutual
def uptoBulk {H : Type} : DataW H → Nat
  | .lit (.string bytes) => bytes.length + 1
  | .lit _ => 1
  | .nil => 1
  | .ptr d => uptoBulk d + 1
  | .slice elems spare => uptoBulkAll elems + uptoBulkAll spare + 1
  | .agg parts => uptoBulkAll parts + 1
  | .iface _ d => uptoBulk d + 1
  | .map entries => uptoBulkEntries entries + 1
  | .held _ => 1
def uptoBulkAll {H : Type} : List (DataW H) → Nat
  | [] => 0
  | d :: r => uptoBulk d + uptoBulkAll r
def uptoBulkEntries {H : Type} : List (Lit × DataW H) → Nat
  | [] => 0
  | x :: r => uptoBulkEntry x + uptoBulkEntries r
def uptoBulkEntry {H : Type} : Lit × DataW H → Nat
  | (.string bytes, d) => bytes.length + uptoBulk d + 1
  | (_, d) => uptoBulk d + 1
 end
def uptoSmall : (H : Type) → List (DataW H) → Bool := fun _ ds => decide (uptoBulkAll ds ≤ 1048576)
def OpenSpec.upto (s : _root_.Go.ChangeSpec) : _root_.Go.OpenSpec := { _root_.Go.OpenSpec.ofChange s with cond := some uptoSmall }

/-- 'laws.FnExactIsFormula', WHERE WHAT IT READS IS OF BULK AT MOST 1048576: true; the input reads as it did. -/
def fnExactIsFormulaUptoRow : OpenClaim := { program := "ytbiieeldfnjogaa", sum := "04a8a58a8a9d605fb9091100ae38ed6ac57c7f9f7c4561e2fdca320176d45d51", func := "loop.example/g03009/laws.FnExactIsFormula", spec := "fnExactIsFormula", apart := false, narrowed := true }
def FnExactIsFormulaUptoSaid : Prop := fnExactIsFormulaUptoRow.holds Try.pinned (OpenSpec.upto fnExactIsFormulaSpec)

/-- 'laws.FnExactFormulaText', WHERE WHAT IT READS IS OF BULK AT MOST 1048576: true; the input reads as it did. -/
def fnExactFormulaTextUptoRow : OpenClaim := { program := "ytbiieeldfnjogaa", sum := "04a8a58a8a9d605fb9091100ae38ed6ac57c7f9f7c4561e2fdca320176d45d51", func := "loop.example/g03009/laws.FnExactFormulaText", spec := "fnExactFormulaText", apart := false, narrowed := true }
def FnExactFormulaTextUptoSaid : Prop := fnExactFormulaTextUptoRow.holds Try.pinned (OpenSpec.upto fnExactFormulaTextSpec)

/-- 'laws.FnExactAreAlike', WHERE WHAT IT READS IS OF BULK AT MOST 1048576: true; the input reads as it did. -/
def fnExactAreAlikeUptoRow : OpenClaim := { program := "ytbiieeldfnjogaa", sum := "04a8a58a8a9d605fb9091100ae38ed6ac57c7f9f7c4561e2fdca320176d45d51", func := "loop.example/g03009/laws.FnExactAreAlike", spec := "fnExactAreAlike", apart := false, narrowed := true }
def FnExactAreAlikeUptoSaid : Prop := fnExactAreAlikeUptoRow.holds Try.pinned (OpenSpec.upto fnExactAreAlikeSpec)

/-- 'laws.FnExactIsAlways', WHERE WHAT IT READS IS OF BULK AT MOST 1048576: true; the input reads as it did. -/
def fnExactIsAlwaysUptoRow : OpenClaim := { program := "ytbiieeldfnjogaa", sum := "04a8a58a8a9d605fb9091100ae38ed6ac57c7f9f7c4561e2fdca320176d45d51", func := "loop.example/g03009/laws.FnExactIsAlways", spec := "fnExactIsAlways", apart := false, narrowed := true }
def FnExactIsAlwaysUptoSaid : Prop := fnExactIsAlwaysUptoRow.holds Try.pinned (OpenSpec.upto fnExactIsAlwaysSpec)

/-- 'laws.FnExactValue', WHERE WHAT IT READS IS OF BULK AT MOST 1048576: true; the input reads as it did. -/
def fnExactValueUptoRow : OpenClaim := { program := "ytbiieeldfnjogaa", sum := "04a8a58a8a9d605fb9091100ae38ed6ac57c7f9f7c4561e2fdca320176d45d51", func := "loop.example/g03009/laws.FnExactValue", spec := "fnExactValue", apart := false, narrowed := true }
def FnExactValueUptoSaid : Prop := fnExactValueUptoRow.holds Try.pinned (OpenSpec.upto fnExactValueSpec)

/-- 'laws.FnExactJoin', WHERE WHAT IT READS IS OF BULK AT MOST 1048576: true; the input reads as it did. -/
def fnExactJoinUptoRow : OpenClaim := { program := "ytbiieeldfnjogaa", sum := "04a8a58a8a9d605fb9091100ae38ed6ac57c7f9f7c4561e2fdca320176d45d51", func := "loop.example/g03009/laws.FnExactJoin", spec := "fnExactJoin", apart := false, narrowed := true }
def FnExactJoinUptoSaid : Prop := fnExactJoinUptoRow.holds Try.pinned (OpenSpec.upto fnExactJoinSpec)

/-- 'laws.FnExactNotOf', WHERE WHAT IT READS IS OF BULK AT MOST 1048576: true; the input reads as it did. -/
def fnExactNotOfUptoRow : OpenClaim := { program := "ytbiieeldfnjogaa", sum := "04a8a58a8a9d605fb9091100ae38ed6ac57c7f9f7c4561e2fdca320176d45d51", func := "loop.example/g03009/laws.FnExactNotOf", spec := "fnExactNotOf", apart := false, narrowed := true }
def FnExactNotOfUptoSaid : Prop := fnExactNotOfUptoRow.holds Try.pinned (OpenSpec.upto fnExactNotOfSpec)

/-- 'laws.FnExactCountRows', WHERE WHAT IT READS IS OF BULK AT MOST 1048576: true; the input reads as it did. -/
def fnExactCountRowsUptoRow : OpenClaim := { program := "ytbiieeldfnjogaa", sum := "04a8a58a8a9d605fb9091100ae38ed6ac57c7f9f7c4561e2fdca320176d45d51", func := "loop.example/g03009/laws.FnExactCountRows", spec := "fnExactCountRows", apart := false, narrowed := true }
def FnExactCountRowsUptoSaid : Prop := fnExactCountRowsUptoRow.holds Try.pinned (OpenSpec.upto fnExactCountRowsSpec)

/-- 'laws.FnExactCanHold', WHERE WHAT IT READS IS OF BULK AT MOST 1048576: true; the input reads as it did. -/
def fnExactCanHoldUptoRow : OpenClaim := { program := "ytbiieeldfnjogaa", sum := "04a8a58a8a9d605fb9091100ae38ed6ac57c7f9f7c4561e2fdca320176d45d51", func := "loop.example/g03009/laws.FnExactCanHold", spec := "fnExactCanHold", apart := false, narrowed := true }
def FnExactCanHoldUptoSaid : Prop := fnExactCanHoldUptoRow.holds Try.pinned (OpenSpec.upto fnExactCanHoldSpec)

/-- 'laws.FnExactFollows', WHERE WHAT IT READS IS OF BULK AT MOST 1048576: true; the input reads as it did. -/
def fnExactFollowsUptoRow : OpenClaim := { program := "ytbiieeldfnjogaa", sum := "04a8a58a8a9d605fb9091100ae38ed6ac57c7f9f7c4561e2fdca320176d45d51", func := "loop.example/g03009/laws.FnExactFollows", spec := "fnExactFollows", apart := false, narrowed := true }
def FnExactFollowsUptoSaid : Prop := fnExactFollowsUptoRow.holds Try.pinned (OpenSpec.upto fnExactFollowsSpec)

/-- 'laws.FnExactLettersIn', WHERE WHAT IT READS IS OF BULK AT MOST 1048576: true; the input reads as it did. -/
def fnExactLettersInUptoRow : OpenClaim := { program := "ytbiieeldfnjogaa", sum := "04a8a58a8a9d605fb9091100ae38ed6ac57c7f9f7c4561e2fdca320176d45d51", func := "loop.example/g03009/laws.FnExactLettersIn", spec := "fnExactLettersIn", recurses := true, apart := false, narrowed := true }
def FnExactLettersInUptoSaid : Prop := fnExactLettersInUptoRow.holds Try.pinned (OpenSpec.upto fnExactLettersInSpec)

end Rows
end Go.Proofs.Ytbiieeldfnjogaa
