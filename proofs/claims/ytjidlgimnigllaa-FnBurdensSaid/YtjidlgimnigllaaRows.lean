/-
  No cell of these rows narrows 'for every input' (looked for: loops, veiled, ifaces, maps, wideKeys, modest, calm, conditions, laid).
  DERIVED. THE GIVEN ROWS OF THIS SEAT. 4 by the template 'for every input the law returns true; each argument reads behind the call as it read before'; 0 by the template 'total and deterministic' (their statements: YtjidlgimnigllaaTotals.lean).
  GIVEN WITH THE SEED: the statements are not yours to turn. If you find one false, say at which input.
  Laid BY PROGRAM, IN A SANDBOX (cutbox-rows.mjs): the forced cells as the released guide's own fill.sh prints them over the translation 337999ac4d2173b9… (all of the seat's roots in one cut). By AI agents, Wed Nov 11 2026. No macro, syntax, notation, axiom, sorry.
-/
import Derived.Test.YtjidlgimnigllaaChecked
import GoSem.Claim
import GoSem.ClaimJoined
import GoSem.ClaimMapViews
import Derived.JoinedTies
import Derived.KernelRfl
namespace Go.Proofs.Ytjidlgimnigllaa
/- THE CELL 'sum', in the pinned program and in every row, IS THE sha256 OF THE DUMP (.gsa) THAT YtjidlgimnigllaaProg.lean LOADS. Nothing in Lean hashes anything: it is a label: what it is worth is what the hold of that sum in a sandbox is worth. -/
noncomputable def Try.pinned : Pinned := { name := "ytjidlgimnigllaa", sum := "337999ac4d2173b9e43582b7e68deeec8abfdafb689eec53b3a3c2243f0a152b", checked := Try.checked }
namespace Rows
def none {H : Type} : Left H := { results := [], args := [] }

/-- 'laws.FnExactMustSpeak': WHATEVER THE INPUT: true; the input reads as it did. -/
def fnExactMustSpeakSpec : ChangeSpec := { name := "fnExactMustSpeak", fn := fun _ => fun
  | [d1, d2] => { results := [.lit (.bool true)], args := [d1, d2] }
  | _ => none }
def fnExactMustSpeakRow : OpenClaim := { program := "ytjidlgimnigllaa", sum := "337999ac4d2173b9e43582b7e68deeec8abfdafb689eec53b3a3c2243f0a152b", func := "loop.example/g03009/laws.FnExactMustSpeak", spec := "fnExactMustSpeak", apart := false }
def FnExactMustSpeakSaid : Prop := fnExactMustSpeakRow.holds Try.pinned (OpenSpec.ofChange fnExactMustSpeakSpec)

/-- ITS FALSE NEIGHBOUR: 'it returns false'. Refute it at one input. -/
def fnExactMustSpeakWrong : ChangeSpec := { name := "fnExactMustSpeak", fn := fun _ => fun
  | [d1, d2] => { results := [.lit (.bool false)], args := [d1, d2] }
  | _ => none }
def FnExactMustSpeakWrongFalsely : Prop := fnExactMustSpeakRow.holds Try.pinned (OpenSpec.ofChange fnExactMustSpeakWrong)

/-- 'laws.FnExactReply': WHATEVER THE INPUT: true; the input reads as it did. -/
def fnExactReplySpec : ChangeSpec := { name := "fnExactReply", fn := fun _ => fun
  | [d1, d2, d3, d4] => { results := [.lit (.bool true)], args := [d1, d2, d3, d4] }
  | _ => none }
def fnExactReplyRow : OpenClaim := { program := "ytjidlgimnigllaa", sum := "337999ac4d2173b9e43582b7e68deeec8abfdafb689eec53b3a3c2243f0a152b", func := "loop.example/g03009/laws.FnExactReply", spec := "fnExactReply", unfollowed := true, recurses := true, apart := false }
def FnExactReplySaid : Prop := fnExactReplyRow.holds Try.pinned (OpenSpec.ofChange fnExactReplySpec)

/-- ITS FALSE NEIGHBOUR: 'it returns false'. Refute it at one input. -/
def fnExactReplyWrong : ChangeSpec := { name := "fnExactReply", fn := fun _ => fun
  | [d1, d2, d3, d4] => { results := [.lit (.bool false)], args := [d1, d2, d3, d4] }
  | _ => none }
def FnExactReplyWrongFalsely : Prop := fnExactReplyRow.holds Try.pinned (OpenSpec.ofChange fnExactReplyWrong)

/-- 'laws.FnExactRaise': WHATEVER THE INPUT: true; the input reads as it did. -/
def fnExactRaiseSpec : ChangeSpec := { name := "fnExactRaise", fn := fun _ => fun
  | [d1, d2, d3] => { results := [.lit (.bool true)], args := [d1, d2, d3] }
  | _ => none }
def fnExactRaiseRow : OpenClaim := { program := "ytjidlgimnigllaa", sum := "337999ac4d2173b9e43582b7e68deeec8abfdafb689eec53b3a3c2243f0a152b", func := "loop.example/g03009/laws.FnExactRaise", spec := "fnExactRaise", inPlace := ["slices.overlaps[loop.example/g03009/impl.Point]"], unfollowed := true, recurses := true, apart := false }
def FnExactRaiseSaid : Prop := fnExactRaiseRow.holds Try.pinned (OpenSpec.ofChange fnExactRaiseSpec)

/-- ITS FALSE NEIGHBOUR: 'it returns false'. Refute it at one input. -/
def fnExactRaiseWrong : ChangeSpec := { name := "fnExactRaise", fn := fun _ => fun
  | [d1, d2, d3] => { results := [.lit (.bool false)], args := [d1, d2, d3] }
  | _ => none }
def FnExactRaiseWrongFalsely : Prop := fnExactRaiseRow.holds Try.pinned (OpenSpec.ofChange fnExactRaiseWrong)

/-- 'laws.FnBurdens': WHATEVER THE INPUT: true; the input reads as it did. -/
def fnBurdensSpec : ChangeSpec := { name := "fnBurdens", fn := fun _ => fun
  | [d] => { results := [.lit (.bool true)], args := [d] }
  | _ => none }
def fnBurdensRow : OpenClaim := { program := "ytjidlgimnigllaa", sum := "337999ac4d2173b9e43582b7e68deeec8abfdafb689eec53b3a3c2243f0a152b", func := "loop.example/g03009/laws.FnBurdens", spec := "fnBurdens", inPlace := ["slices.overlaps[loop.example/g03009/impl.Point]"], unfollowed := true, recurses := true, apart := false }
def FnBurdensSaid : Prop := fnBurdensRow.holds Try.pinned (OpenSpec.ofChange fnBurdensSpec)

/-- ITS FALSE NEIGHBOUR: 'it returns false'. Refute it at one input. -/
def fnBurdensWrong : ChangeSpec := { name := "fnBurdens", fn := fun _ => fun
  | [d] => { results := [.lit (.bool false)], args := [d] }
  | _ => none }
def FnBurdensWrongFalsely : Prop := fnBurdensRow.holds Try.pinned (OpenSpec.ofChange fnBurdensWrong)

/- THE SECOND FORM. 'bulk': how many values and letters a reading holds, each counted each time it is reached (what is shared counts as often as it is met; a slice's spare places count too). A statement '..UptoSaid' is the law's where the arguments, and the package variables that the reading takes, are together of bulk at most 1048576: NARROWER than '..Said'. Prove '..Said' where nothing that the law and all that it calls make is longer than what came in: it says more and counts as full. Else prove '..UptoSaid'. A law counts once. -/
mutual
def uptoBulk {H : Type} : DataW H → Nat
  | .lit (.string bytes) => bytes.length + 1
  | .lit _ => 1
  | .nil => 1
  | .ptr d => uptoBulk d + 1
  | .slice elems spare => uptoBulkAll elems + uptoBulkAll spare + 1
  | .agg parts => uptoBulkAll parts + 1
  | .iface _ d => uptoBulk d + 1
  | .map entries => uptoBulkEntries entries + 1
  | .held _ => 1
def uptoBulkAll {H : Type} : List (DataW H) → Nat
  | [] => 0
  | d :: r => uptoBulk d + uptoBulkAll r
def uptoBulkEntries {H : Type} : List (Lit × DataW H) → Nat
  | [] => 0
  | x :: r => uptoBulkEntry x + uptoBulkEntries r
def uptoBulkEntry {H : Type} : Lit × DataW H → Nat
  | (.string bytes, d) => bytes.length + uptoBulk d + 1
  | (_, d) => uptoBulk d + 1
 end
def uptoSmall : (H : Type) → List (DataW H) → Bool := fun _ ds => decide (uptoBulkAll ds ≤ 1048576)
def OpenSpec.upto (s : _root_.Go.ChangeSpec) : _root_.Go.OpenSpec := { _root_.Go.OpenSpec.ofChange s with cond := some uptoSmall }

/-- 'laws.FnExactMustSpeak', WHERE WHAT IT READS IS OF BULK AT MOST 1048576: true; the input reads as it did. -/
def fnExactMustSpeakUptoRow : OpenClaim := { program := "ytjidlgimnigllaa", sum := "337999ac4d2173b9e43582b7e68deeec8abfdafb689eec53b3a3c2243f0a152b", func := "loop.example/g03009/laws.FnExactMustSpeak", spec := "fnExactMustSpeak", apart := false, narrowed := true }
def FnExactMustSpeakUptoSaid : Prop := fnExactMustSpeakUptoRow.holds Try.pinned (OpenSpec.upto fnExactMustSpeakSpec)

/-- 'laws.FnExactReply', WHERE WHAT IT READS IS OF BULK AT MOST 1048576: true; the input reads as it did. -/
def fnExactReplyUptoRow : OpenClaim := { program := "ytjidlgimnigllaa", sum := "337999ac4d2173b9e43582b7e68deeec8abfdafb689eec53b3a3c2243f0a152b", func := "loop.example/g03009/laws.FnExactReply", spec := "fnExactReply", unfollowed := true, recurses := true, apart := false, narrowed := true }
def FnExactReplyUptoSaid : Prop := fnExactReplyUptoRow.holds Try.pinned (OpenSpec.upto fnExactReplySpec)

/-- 'laws.FnExactRaise', WHERE WHAT IT READS IS OF BULK AT MOST 1048576: true; the input reads as it did. -/
def fnExactRaiseUptoRow : OpenClaim := { program := "ytjidlgimnigllaa", sum := "337999ac4d2173b9e43582b7e68deeec8abfdafb689eec53b3a3c2243f0a152b", func := "loop.example/g03009/laws.FnExactRaise", spec := "fnExactRaise", inPlace := ["slices.overlaps[loop.example/g03009/impl.Point]"], unfollowed := true, recurses := true, apart := false, narrowed := true }
def FnExactRaiseUptoSaid : Prop := fnExactRaiseUptoRow.holds Try.pinned (OpenSpec.upto fnExactRaiseSpec)

/-- 'laws.FnBurdens', WHERE WHAT IT READS IS OF BULK AT MOST 1048576: true; the input reads as it did. -/
def fnBurdensUptoRow : OpenClaim := { program := "ytjidlgimnigllaa", sum := "337999ac4d2173b9e43582b7e68deeec8abfdafb689eec53b3a3c2243f0a152b", func := "loop.example/g03009/laws.FnBurdens", spec := "fnBurdens", inPlace := ["slices.overlaps[loop.example/g03009/impl.Point]"], unfollowed := true, recurses := true, apart := false, narrowed := true }
def FnBurdensUptoSaid : Prop := fnBurdensUptoRow.holds Try.pinned (OpenSpec.upto fnBurdensSpec)

end Rows
end Go.Proofs.Ytjidlgimnigllaa
