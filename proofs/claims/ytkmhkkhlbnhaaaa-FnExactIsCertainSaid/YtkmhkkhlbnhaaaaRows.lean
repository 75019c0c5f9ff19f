/-
  No cell of these rows narrows 'for every input' (looked for: loops, veiled, ifaces, maps, wideKeys, modest, calm, conditions, laid).
  DERIVED. THE GIVEN ROWS OF THIS SEAT. 10 by the template 'for every input the law returns true; each argument reads behind the call as it read before'; 0 by the template 'total and deterministic' (their statements: YtkmhkkhlbnhaaaaTotals.lean).
  GIVEN WITH THE SEED: the statements are not yours to turn. If you find one false, say at which input.
  Laid BY PROGRAM, IN A SANDBOX (cutbox-rows.mjs): the forced cells as the released guide's own fill.sh prints them over the translation 8d424593a4cb3587… (all of the seat's roots in one cut). By AI agents, Wed Nov 11 2026. No macro, syntax, notation, axiom, sorry.
-/
import Derived.Test.YtkmhkkhlbnhaaaaChecked
import GoSem.Claim
import GoSem.ClaimJoined
import GoSem.ClaimMapViews
import Derived.JoinedTies
import Derived.KernelRfl
namespace Go.Proofs.Ytkmhkkhlbnhaaaa
/- THE CELL 'sum', in the pinned program and in every row, IS THE sha256 OF THE DUMP (.gsa) THAT YtkmhkkhlbnhaaaaProg.lean LOADS. Nothing in Lean hashes anything: it is a label: what it is worth is what the hold of that sum in a sandbox is worth. -/
noncomputable def Try.pinned : Pinned := { name := "ytkmhkkhlbnhaaaa", sum := "8d424593a4cb3587690600041b5a0b8aed7ce8e5a19ecb95f194553e889191fe", checked := Try.checked }
namespace Rows
def none {H : Type} : Left H := { results := [], args := [] }

/-- 'laws.FnExactIsCertain': WHATEVER THE INPUT: true; the input reads as it did. -/
def fnExactIsCertainSpec : ChangeSpec := { name := "fnExactIsCertain", fn := fun _ => fun
  | [d1, d2] => { results := [.lit (.bool true)], args := [d1, d2] }
  | _ => none }
def fnExactIsCertainRow : OpenClaim := { program := "ytkmhkkhlbnhaaaa", sum := "8d424593a4cb3587690600041b5a0b8aed7ce8e5a19ecb95f194553e889191fe", func := "loop.example/g03009/laws.FnExactIsCertain", spec := "fnExactIsCertain", unfollowed := true, recurses := true, apart := false }
def FnExactIsCertainSaid : Prop := fnExactIsCertainRow.holds Try.pinned (OpenSpec.ofChange fnExactIsCertainSpec)

/-- ITS FALSE NEIGHBOUR: 'it returns false'. Refute it at one input. -/
def fnExactIsCertainWrong : ChangeSpec := { name := "fnExactIsCertain", fn := fun _ => fun
  | [d1, d2] => { results := [.lit (.bool false)], args := [d1, d2] }
  | _ => none }
def FnExactIsCertainWrongFalsely : Prop := fnExactIsCertainRow.holds Try.pinned (OpenSpec.ofChange fnExactIsCertainWrong)

/-- 'laws.FnExactPreferred': WHATEVER THE INPUT: true; the input reads as it did. -/
def fnExactPreferredSpec : ChangeSpec := { name := "fnExactPreferred", fn := fun _ => fun
  | [d] => { results := [.lit (.bool true)], args := [d] }
  | _ => none }
def fnExactPreferredRow : OpenClaim := { program := "ytkmhkkhlbnhaaaa", sum := "8d424593a4cb3587690600041b5a0b8aed7ce8e5a19ecb95f194553e889191fe", func := "loop.example/g03009/laws.FnExactPreferred", spec := "fnExactPreferred", unfollowed := true, recurses := true, apart := false }
def FnExactPreferredSaid : Prop := fnExactPreferredRow.holds Try.pinned (OpenSpec.ofChange fnExactPreferredSpec)

/-- ITS FALSE NEIGHBOUR: 'it returns false'. Refute it at one input. -/
def fnExactPreferredWrong : ChangeSpec := { name := "fnExactPreferred", fn := fun _ => fun
  | [d] => { results := [.lit (.bool false)], args := [d] }
  | _ => none }
def FnExactPreferredWrongFalsely : Prop := fnExactPreferredRow.holds Try.pinned (OpenSpec.ofChange fnExactPreferredWrong)

/-- 'laws.FnExactLongestGame': WHATEVER THE INPUT: true; the input reads as it did. -/
def fnExactLongestGameSpec : ChangeSpec := { name := "fnExactLongestGame", fn := fun _ => fun
  | [d] => { results := [.lit (.bool true)], args := [d] }
  | _ => none }
def fnExactLongestGameRow : OpenClaim := { program := "ytkmhkkhlbnhaaaa", sum := "8d424593a4cb3587690600041b5a0b8aed7ce8e5a19ecb95f194553e889191fe", func := "loop.example/g03009/laws.FnExactLongestGame", spec := "fnExactLongestGame", apart := false }
def FnExactLongestGameSaid : Prop := fnExactLongestGameRow.holds Try.pinned (OpenSpec.ofChange fnExactLongestGameSpec)

/-- ITS FALSE NEIGHBOUR: 'it returns false'. Refute it at one input. -/
def fnExactLongestGameWrong : ChangeSpec := { name := "fnExactLongestGame", fn := fun _ => fun
  | [d] => { results := [.lit (.bool false)], args := [d] }
  | _ => none }
def FnExactLongestGameWrongFalsely : Prop := fnExactLongestGameRow.holds Try.pinned (OpenSpec.ofChange fnExactLongestGameWrong)

/-- 'laws.FnExactCountLoops': WHATEVER THE INPUT: true; the input reads as it did. -/
def fnExactCountLoopsSpec : ChangeSpec := { name := "fnExactCountLoops", fn := fun _ => fun
  | [d] => { results := [.lit (.bool true)], args := [d] }
  | _ => none }
def fnExactCountLoopsRow : OpenClaim := { program := "ytkmhkkhlbnhaaaa", sum := "8d424593a4cb3587690600041b5a0b8aed7ce8e5a19ecb95f194553e889191fe", func := "loop.example/g03009/laws.FnExactCountLoops", spec := "fnExactCountLoops", apart := false }
def FnExactCountLoopsSaid : Prop := fnExactCountLoopsRow.holds Try.pinned (OpenSpec.ofChange fnExactCountLoopsSpec)

/-- ITS FALSE NEIGHBOUR: 'it returns false'. Refute it at one input. -/
def fnExactCountLoopsWrong : ChangeSpec := { name := "fnExactCountLoops", fn := fun _ => fun
  | [d] => { results := [.lit (.bool false)], args := [d] }
  | _ => none }
def FnExactCountLoopsWrongFalsely : Prop := fnExactCountLoopsRow.holds Try.pinned (OpenSpec.ofChange fnExactCountLoopsWrong)

/-- 'laws.FnExactIsPartOf': WHATEVER THE INPUT: true; the input reads as it did. -/
def fnExactIsPartOfSpec : ChangeSpec := { name := "fnExactIsPartOf", fn := fun _ => fun
  | [d1, d2] => { results := [.lit (.bool true)], args := [d1, d2] }
  | _ => none }
def fnExactIsPartOfRow : OpenClaim := { program := "ytkmhkkhlbnhaaaa", sum := "8d424593a4cb3587690600041b5a0b8aed7ce8e5a19ecb95f194553e889191fe", func := "loop.example/g03009/laws.FnExactIsPartOf", spec := "fnExactIsPartOf", unfollowed := true, recurses := true, apart := false }
def FnExactIsPartOfSaid : Prop := fnExactIsPartOfRow.holds Try.pinned (OpenSpec.ofChange fnExactIsPartOfSpec)

/-- ITS FALSE NEIGHBOUR: 'it returns false'. Refute it at one input. -/
def fnExactIsPartOfWrong : ChangeSpec := { name := "fnExactIsPartOf", fn := fun _ => fun
  | [d1, d2] => { results := [.lit (.bool false)], args := [d1, d2] }
  | _ => none }
def FnExactIsPartOfWrongFalsely : Prop := fnExactIsPartOfRow.holds Try.pinned (OpenSpec.ofChange fnExactIsPartOfWrong)

/-- 'laws.FnExactIsLine': WHATEVER THE INPUT: true; the input reads as it did. -/
def fnExactIsLineSpec : ChangeSpec := { name := "fnExactIsLine", fn := fun _ => fun
  | [d1, d2] => { results := [.lit (.bool true)], args := [d1, d2] }
  | _ => none }
def fnExactIsLineRow : OpenClaim := { program := "ytkmhkkhlbnhaaaa", sum := "8d424593a4cb3587690600041b5a0b8aed7ce8e5a19ecb95f194553e889191fe", func := "loop.example/g03009/laws.FnExactIsLine", spec := "fnExactIsLine", apart := false }
def FnExactIsLineSaid : Prop := fnExactIsLineRow.holds Try.pinned (OpenSpec.ofChange fnExactIsLineSpec)

/-- ITS FALSE NEIGHBOUR: 'it returns false'. Refute it at one input. -/
def fnExactIsLineWrong : ChangeSpec := { name := "fnExactIsLine", fn := fun _ => fun
  | [d1, d2] => { results := [.lit (.bool false)], args := [d1, d2] }
  | _ => none }
def FnExactIsLineWrongFalsely : Prop := fnExactIsLineRow.holds Try.pinned (OpenSpec.ofChange fnExactIsLineWrong)

/-- 'laws.FnExactAnswersTo': WHATEVER THE INPUT: true; the input reads as it did. -/
def fnExactAnswersToSpec : ChangeSpec := { name := "fnExactAnswersTo", fn := fun _ => fun
  | [d1, d2, d3] => { results := [.lit (.bool true)], args := [d1, d2, d3] }
  | _ => none }
def fnExactAnswersToRow : OpenClaim := { program := "ytkmhkkhlbnhaaaa", sum := "8d424593a4cb3587690600041b5a0b8aed7ce8e5a19ecb95f194553e889191fe", func := "loop.example/g03009/laws.FnExactAnswersTo", spec := "fnExactAnswersTo", apart := false }
def FnExactAnswersToSaid : Prop := fnExactAnswersToRow.holds Try.pinned (OpenSpec.ofChange fnExactAnswersToSpec)

/-- ITS FALSE NEIGHBOUR: 'it returns false'. Refute it at one input. -/
def fnExactAnswersToWrong : ChangeSpec := { name := "fnExactAnswersTo", fn := fun _ => fun
  | [d1, d2, d3] => { results := [.lit (.bool false)], args := [d1, d2, d3] }
  | _ => none }
def FnExactAnswersToWrongFalsely : Prop := fnExactAnswersToRow.holds Try.pinned (OpenSpec.ofChange fnExactAnswersToWrong)

/-- 'laws.FnExactWithClaim': WHATEVER THE INPUT: true; the input reads as it did. -/
def fnExactWithClaimSpec : ChangeSpec := { name := "fnExactWithClaim", fn := fun _ => fun
  | [d1, d2] => { results := [.lit (.bool true)], args := [d1, d2] }
  | _ => none }
def fnExactWithClaimRow : OpenClaim := { program := "ytkmhkkhlbnhaaaa", sum := "8d424593a4cb3587690600041b5a0b8aed7ce8e5a19ecb95f194553e889191fe", func := "loop.example/g03009/laws.FnExactWithClaim", spec := "fnExactWithClaim", apart := false }
def FnExactWithClaimSaid : Prop := fnExactWithClaimRow.holds Try.pinned (OpenSpec.ofChange fnExactWithClaimSpec)

/-- ITS FALSE NEIGHBOUR: 'it returns false'. Refute it at one input. -/
def fnExactWithClaimWrong : ChangeSpec := { name := "fnExactWithClaim", fn := fun _ => fun
  | [d1, d2] => { results := [.lit (.bool false)], args := [d1, d2] }
  | _ => none }
def FnExactWithClaimWrongFalsely : Prop := fnExactWithClaimRow.holds Try.pinned (OpenSpec.ofChange fnExactWithClaimWrong)

/-- 'laws.FnExactWithout': WHATEVER THE INPUT: true; the input reads as it did. -/
def fnExactWithoutSpec : ChangeSpec := { name := "fnExactWithout", fn := fun _ => fun
  | [d1, d2] => { results := [.lit (.bool true)], args := [d1, d2] }
  | _ => none }
def fnExactWithoutRow : OpenClaim := { program := "ytkmhkkhlbnhaaaa", sum := "8d424593a4cb3587690600041b5a0b8aed7ce8e5a19ecb95f194553e889191fe", func := "loop.example/g03009/laws.FnExactWithout", spec := "fnExactWithout", apart := false }
def FnExactWithoutSaid : Prop := fnExactWithoutRow.holds Try.pinned (OpenSpec.ofChange fnExactWithoutSpec)

/-- ITS FALSE NEIGHBOUR: 'it returns false'. Refute it at one input. -/
def fnExactWithoutWrong : ChangeSpec := { name := "fnExactWithout", fn := fun _ => fun
  | [d1, d2] => { results := [.lit (.bool false)], args := [d1, d2] }
  | _ => none }
def FnExactWithoutWrongFalsely : Prop := fnExactWithoutRow.holds Try.pinned (OpenSpec.ofChange fnExactWithoutWrong)

/-- 'laws.FnExactWinnerOf': WHATEVER THE INPUT: true; the input reads as it did. -/
def fnExactWinnerOfSpec : ChangeSpec := { name := "fnExactWinnerOf", fn := fun _ => fun
  | [d1, d2] => { results := [.lit (.bool true)], args := [d1, d2] }
  | _ => none }
def fnExactWinnerOfRow : OpenClaim := { program := "ytkmhkkhlbnhaaaa", sum := "8d424593a4cb3587690600041b5a0b8aed7ce8e5a19ecb95f194553e889191fe", func := "loop.example/g03009/laws.FnExactWinnerOf", spec := "fnExactWinnerOf", apart := false }
def FnExactWinnerOfSaid : Prop := fnExactWinnerOfRow.holds Try.pinned (OpenSpec.ofChange fnExactWinnerOfSpec)

/-- ITS FALSE NEIGHBOUR: 'it returns false'. Refute it at one input. -/
def fnExactWinnerOfWrong : ChangeSpec := { name := "fnExactWinnerOf", fn := fun _ => fun
  | [d1, d2] => { results := [.lit (.bool false)], args := [d1, d2] }
  | _ => none }
def FnExactWinnerOfWrongFalsely : Prop := fnExactWinnerOfRow.holds Try.pinned (OpenSpec.ofChange fnExactWinnerOfWrong)

/- THE SECOND FORM. 'bulk': how many values and letters a reading holds, each counted each time it is reached (what is shared counts as often as it is met; a slice's spare places count too). A statement '..UptoSaid' is the law's where the arguments, and the package variables that the reading takes, are together of bulk at most 1048576: NARROWER than '..Said'. Prove '..Said' where nothing that the law and all that it calls make is longer than what came in: it says more and counts as full. Else prove '..UptoSaid'. A law counts once. -/
mutual
def uptoBulk {H : Type} : DataW H → Nat
  | .lit (.string bytes) => bytes.length + 1
  | .lit _ => 1
  | .nil => 1
  | .ptr d => uptoBulk d + 1
  | .slice elems spare => uptoBulkAll elems + uptoBulkAll spare + 1
  | .agg parts => uptoBulkAll parts + 1
  | .iface _ d => uptoBulk d + 1
  | .map entries => uptoBulkEntries entries + 1
  | .held _ => 1
def uptoBulkAll {H : Type} : List (DataW H) → Nat
  | [] => 0
  | d :: r => uptoBulk d + uptoBulkAll r
def uptoBulkEntries {H : Type} : List (Lit × DataW H) → Nat
  | [] => 0
  | x :: r => uptoBulkEntry x + uptoBulkEntries r
def uptoBulkEntry {H : Type} : Lit × DataW H → Nat
  | (.string bytes, d) => bytes.length + uptoBulk d + 1
  | (_, d) => uptoBulk d + 1
 end
def uptoSmall : (H : Type) → List (DataW H) → Bool := fun _ ds => decide (uptoBulkAll ds ≤ 1048576)
def OpenSpec.upto (s : _root_.Go.ChangeSpec) : _root_.Go.OpenSpec := { _root_.Go.OpenSpec.ofChange s with cond := some uptoSmall }

/-- 'laws.FnExactIsCertain', WHERE WHAT IT READS IS OF BULK AT MOST 1048576: true; the input reads as it did. -/
def fnExactIsCertainUptoRow : OpenClaim := { program := "ytkmhkkhlbnhaaaa", sum := "8d424593a4cb3587690600041b5a0b8aed7ce8e5a19ecb95f194553e889191fe", func := "loop.example/g03009/laws.FnExactIsCertain", spec := "fnExactIsCertain", unfollowed := true, recurses := true, apart := false, narrowed := true }
def FnExactIsCertainUptoSaid : Prop := fnExactIsCertainUptoRow.holds Try.pinned (OpenSpec.upto fnExactIsCertainSpec)

/-- 'laws.FnExactPreferred', WHERE WHAT IT READS IS OF BULK AT MOST 1048576: true; the input reads as it did. -/
def fnExactPreferredUptoRow : OpenClaim := { program := "ytkmhkkhlbnhaaaa", sum := "8d424593a4cb3587690600041b5a0b8aed7ce8e5a19ecb95f194553e889191fe", func := "loop.example/g03009/laws.FnExactPreferred", spec := "fnExactPreferred", unfollowed := true, recurses := true, apart := false, narrowed := true }
def FnExactPreferredUptoSaid : Prop := fnExactPreferredUptoRow.holds Try.pinned (OpenSpec.upto fnExactPreferredSpec)

/-- 'laws.FnExactLongestGame', WHERE WHAT IT READS IS OF BULK AT MOST 1048576: true; the input reads as it did. -/
def fnExactLongestGameUptoRow : OpenClaim := { program := "ytkmhkkhlbnhaaaa", sum := "8d424593a4cb3587690600041b5a0b8aed7ce8e5a19ecb95f194553e889191fe", func := "loop.example/g03009/laws.FnExactLongestGame", spec := "fnExactLongestGame", apart := false, narrowed := true }
def FnExactLongestGameUptoSaid : Prop := fnExactLongestGameUptoRow.holds Try.pinned (OpenSpec.upto fnExactLongestGameSpec)

/-- 'laws.FnExactCountLoops', WHERE WHAT IT READS IS OF BULK AT MOST 1048576: true; the input reads as it did. -/
def fnExactCountLoopsUptoRow : OpenClaim := { program := "ytkmhkkhlbnhaaaa", sum := "8d424593a4cb3587690600041b5a0b8aed7ce8e5a19ecb95f194553e889191fe", func := "loop.example/g03009/laws.FnExactCountLoops", spec := "fnExactCountLoops", apart := false, narrowed := true }
def FnExactCountLoopsUptoSaid : Prop := fnExactCountLoopsUptoRow.holds Try.pinned (OpenSpec.upto fnExactCountLoopsSpec)

/-- 'laws.FnExactIsPartOf', WHERE WHAT IT READS IS OF BULK AT MOST 1048576: true; the input reads as it did. -/
def fnExactIsPartOfUptoRow : OpenClaim := { program := "ytkmhkkhlbnhaaaa", sum := "8d424593a4cb3587690600041b5a0b8aed7ce8e5a19ecb95f194553e889191fe", func := "loop.example/g03009/laws.FnExactIsPartOf", spec := "fnExactIsPartOf", unfollowed := true, recurses := true, apart := false, narrowed := true }
def FnExactIsPartOfUptoSaid : Prop := fnExactIsPartOfUptoRow.holds Try.pinned (OpenSpec.upto fnExactIsPartOfSpec)

/-- 'laws.FnExactIsLine', WHERE WHAT IT READS IS OF BULK AT MOST 1048576: true; the input reads as it did. -/
def fnExactIsLineUptoRow : OpenClaim := { program := "ytkmhkkhlbnhaaaa", sum := "8d424593a4cb3587690600041b5a0b8aed7ce8e5a19ecb95f194553e889191fe", func := "loop.example/g03009/laws.FnExactIsLine", spec := "fnExactIsLine", apart := false, narrowed := true }
def FnExactIsLineUptoSaid : Prop := fnExactIsLineUptoRow.holds Try.pinned (OpenSpec.upto fnExactIsLineSpec)

/-- 'laws.FnExactAnswersTo', WHERE WHAT IT READS IS OF BULK AT MOST 1048576: true; the input reads as it did. -/
def fnExactAnswersToUptoRow : OpenClaim := { program := "ytkmhkkhlbnhaaaa", sum := "8d424593a4cb3587690600041b5a0b8aed7ce8e5a19ecb95f194553e889191fe", func := "loop.example/g03009/laws.FnExactAnswersTo", spec := "fnExactAnswersTo", apart := false, narrowed := true }
def FnExactAnswersToUptoSaid : Prop := fnExactAnswersToUptoRow.holds Try.pinned (OpenSpec.upto fnExactAnswersToSpec)

/-- 'laws.FnExactWithClaim', WHERE WHAT IT READS IS OF BULK AT MOST 1048576: true; the input reads as it did. -/
def fnExactWithClaimUptoRow : OpenClaim := { program := "ytkmhkkhlbnhaaaa", sum := "8d424593a4cb3587690600041b5a0b8aed7ce8e5a19ecb95f194553e889191fe", func := "loop.example/g03009/laws.FnExactWithClaim", spec := "fnExactWithClaim", apart := false, narrowed := true }
def FnExactWithClaimUptoSaid : Prop := fnExactWithClaimUptoRow.holds Try.pinned (OpenSpec.upto fnExactWithClaimSpec)

/-- 'laws.FnExactWithout', WHERE WHAT IT READS IS OF BULK AT MOST 1048576: true; the input reads as it did. -/
def fnExactWithoutUptoRow : OpenClaim := { program := "ytkmhkkhlbnhaaaa", sum := "8d424593a4cb3587690600041b5a0b8aed7ce8e5a19ecb95f194553e889191fe", func := "loop.example/g03009/laws.FnExactWithout", spec := "fnExactWithout", apart := false, narrowed := true }
def FnExactWithoutUptoSaid : Prop := fnExactWithoutUptoRow.holds Try.pinned (OpenSpec.upto fnExactWithoutSpec)

/-- 'laws.FnExactWinnerOf', WHERE WHAT IT READS IS OF BULK AT MOST 1048576: true; the input reads as it did. -/
def fnExactWinnerOfUptoRow : OpenClaim := { program := "ytkmhkkhlbnhaaaa", sum := "8d424593a4cb3587690600041b5a0b8aed7ce8e5a19ecb95f194553e889191fe", func := "loop.example/g03009/laws.FnExactWinnerOf", spec := "fnExactWinnerOf", apart := false, narrowed := true }
def FnExactWinnerOfUptoSaid : Prop := fnExactWinnerOfUptoRow.holds Try.pinned (OpenSpec.upto fnExactWinnerOfSpec)

end Rows
end Go.Proofs.Ytkmhkkhlbnhaaaa
