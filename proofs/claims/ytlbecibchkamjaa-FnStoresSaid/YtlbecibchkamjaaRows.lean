/-
  No cell of these rows narrows 'for every input' (looked for: loops, veiled, ifaces, maps, wideKeys, modest, calm, conditions, laid).
  DERIVED. THE GIVEN ROWS OF THIS SEAT. 8 by the template 'for every input the law returns true; each argument reads behind the call as it read before'; 0 by the template 'total and deterministic' (their statements: YtlbecibchkamjaaTotals.lean).
  GIVEN WITH THE SEED: the statements are not yours to turn. If you find one false, say at which input.
  Laid BY PROGRAM, IN A SANDBOX (cutbox-rows.mjs): the forced cells as the released guide's own fill.sh prints them over the translation cac00f9a2862cb5c… (all of the seat's roots in one cut). By AI agents, Wed Nov 11 2026. No macro, syntax, notation, axiom, sorry.
-/
import Derived.Test.YtlbecibchkamjaaChecked
import GoSem.Claim
import GoSem.ClaimJoined
import GoSem.ClaimMapViews
import Derived.JoinedTies
import Derived.KernelRfl
namespace Go.Proofs.Ytlbecibchkamjaa
/- THE CELL 'sum', in the pinned program and in every row, IS THE sha256 OF THE DUMP (.gsa) THAT YtlbecibchkamjaaProg.lean LOADS. Nothing in Lean hashes anything: it is a label: what it is worth is what the hold of that sum in a sandbox is worth. -/
noncomputable def Try.pinned : Pinned := { name := "ytlbecibchkamjaa", sum := "cac00f9a2862cb5c4aaaacc30bcdba2712f50811a29e9afc3cca334c797254f8", checked := Try.checked }
namespace Rows
def none {H : Type} : Left H := { results := [], args := [] }

/-- 'laws.FnExactTakeBack': WHATEVER THE INPUT: true; the input reads as it did. -/
def fnExactTakeBackSpec : ChangeSpec := { name := "fnExactTakeBack", fn := fun _ => fun
  | [d1, d2] => { results := [.lit (.bool true)], args := [d1, d2] }
  | _ => none }
def fnExactTakeBackRow : OpenClaim := { program := "ytlbecibchkamjaa", sum := "cac00f9a2862cb5c4aaaacc30bcdba2712f50811a29e9afc3cca334c797254f8", func := "loop.example/g03009/laws.FnExactTakeBack", spec := "fnExactTakeBack", unfollowed := true, recurses := true, apart := false }
def FnExactTakeBackSaid : Prop := fnExactTakeBackRow.holds Try.pinned (OpenSpec.ofChange fnExactTakeBackSpec)

/-- ITS FALSE NEIGHBOUR: 'it returns false'. Refute it at one input. -/
def fnExactTakeBackWrong : ChangeSpec := { name := "fnExactTakeBack", fn := fun _ => fun
  | [d1, d2] => { results := [.lit (.bool false)], args := [d1, d2] }
  | _ => none }
def FnExactTakeBackWrongFalsely : Prop := fnExactTakeBackRow.holds Try.pinned (OpenSpec.ofChange fnExactTakeBackWrong)

/-- 'laws.FnExactIsStore': WHATEVER THE INPUT: true; the input reads as it did. -/
def fnExactIsStoreSpec : ChangeSpec := { name := "fnExactIsStore", fn := fun _ => fun
  | [d] => { results := [.lit (.bool true)], args := [d] }
  | _ => none }
def fnExactIsStoreRow : OpenClaim := { program := "ytlbecibchkamjaa", sum := "cac00f9a2862cb5c4aaaacc30bcdba2712f50811a29e9afc3cca334c797254f8", func := "loop.example/g03009/laws.FnExactIsStore", spec := "fnExactIsStore", unfollowed := true, recurses := true, apart := false }
def FnExactIsStoreSaid : Prop := fnExactIsStoreRow.holds Try.pinned (OpenSpec.ofChange fnExactIsStoreSpec)

/-- ITS FALSE NEIGHBOUR: 'it returns false'. Refute it at one input. -/
def fnExactIsStoreWrong : ChangeSpec := { name := "fnExactIsStore", fn := fun _ => fun
  | [d] => { results := [.lit (.bool false)], args := [d] }
  | _ => none }
def FnExactIsStoreWrongFalsely : Prop := fnExactIsStoreRow.holds Try.pinned (OpenSpec.ofChange fnExactIsStoreWrong)

/-- 'laws.FnExactMustAdmit': WHATEVER THE INPUT: true; the input reads as it did. -/
def fnExactMustAdmitSpec : ChangeSpec := { name := "fnExactMustAdmit", fn := fun _ => fun
  | [d1, d2] => { results := [.lit (.bool true)], args := [d1, d2] }
  | _ => none }
def fnExactMustAdmitRow : OpenClaim := { program := "ytlbecibchkamjaa", sum := "cac00f9a2862cb5c4aaaacc30bcdba2712f50811a29e9afc3cca334c797254f8", func := "loop.example/g03009/laws.FnExactMustAdmit", spec := "fnExactMustAdmit", unfollowed := true, recurses := true, apart := false }
def FnExactMustAdmitSaid : Prop := fnExactMustAdmitRow.holds Try.pinned (OpenSpec.ofChange fnExactMustAdmitSpec)

/-- ITS FALSE NEIGHBOUR: 'it returns false'. Refute it at one input. -/
def fnExactMustAdmitWrong : ChangeSpec := { name := "fnExactMustAdmit", fn := fun _ => fun
  | [d1, d2] => { results := [.lit (.bool false)], args := [d1, d2] }
  | _ => none }
def FnExactMustAdmitWrongFalsely : Prop := fnExactMustAdmitRow.holds Try.pinned (OpenSpec.ofChange fnExactMustAdmitWrong)

/-- 'laws.FnExactQuarrels': WHATEVER THE INPUT: true; the input reads as it did. -/
def fnExactQuarrelsSpec : ChangeSpec := { name := "fnExactQuarrels", fn := fun _ => fun
  | [d1, d2] => { results := [.lit (.bool true)], args := [d1, d2] }
  | _ => none }
def fnExactQuarrelsRow : OpenClaim := { program := "ytlbecibchkamjaa", sum := "cac00f9a2862cb5c4aaaacc30bcdba2712f50811a29e9afc3cca334c797254f8", func := "loop.example/g03009/laws.FnExactQuarrels", spec := "fnExactQuarrels", unfollowed := true, recurses := true, apart := false }
def FnExactQuarrelsSaid : Prop := fnExactQuarrelsRow.holds Try.pinned (OpenSpec.ofChange fnExactQuarrelsSpec)

/-- ITS FALSE NEIGHBOUR: 'it returns false'. Refute it at one input. -/
def fnExactQuarrelsWrong : ChangeSpec := { name := "fnExactQuarrels", fn := fun _ => fun
  | [d1, d2] => { results := [.lit (.bool false)], args := [d1, d2] }
  | _ => none }
def FnExactQuarrelsWrongFalsely : Prop := fnExactQuarrelsRow.holds Try.pinned (OpenSpec.ofChange fnExactQuarrelsWrong)

/-- 'laws.FnExactSay': WHATEVER THE INPUT: true; the input reads as it did. -/
def fnExactSaySpec : ChangeSpec := { name := "fnExactSay", fn := fun _ => fun
  | [d1, d2] => { results := [.lit (.bool true)], args := [d1, d2] }
  | _ => none }
def fnExactSayRow : OpenClaim := { program := "ytlbecibchkamjaa", sum := "cac00f9a2862cb5c4aaaacc30bcdba2712f50811a29e9afc3cca334c797254f8", func := "loop.example/g03009/laws.FnExactSay", spec := "fnExactSay", unfollowed := true, recurses := true, apart := false }
def FnExactSaySaid : Prop := fnExactSayRow.holds Try.pinned (OpenSpec.ofChange fnExactSaySpec)

/-- ITS FALSE NEIGHBOUR: 'it returns false'. Refute it at one input. -/
def fnExactSayWrong : ChangeSpec := { name := "fnExactSay", fn := fun _ => fun
  | [d1, d2] => { results := [.lit (.bool false)], args := [d1, d2] }
  | _ => none }
def FnExactSayWrongFalsely : Prop := fnExactSayRow.holds Try.pinned (OpenSpec.ofChange fnExactSayWrong)

/-- 'laws.FnExactLeastBack': WHATEVER THE INPUT: true; the input reads as it did. -/
def fnExactLeastBackSpec : ChangeSpec := { name := "fnExactLeastBack", fn := fun _ => fun
  | [d1, d2] => { results := [.lit (.bool true)], args := [d1, d2] }
  | _ => none }
def fnExactLeastBackRow : OpenClaim := { program := "ytlbecibchkamjaa", sum := "cac00f9a2862cb5c4aaaacc30bcdba2712f50811a29e9afc3cca334c797254f8", func := "loop.example/g03009/laws.FnExactLeastBack", spec := "fnExactLeastBack", unfollowed := true, recurses := true, apart := false }
def FnExactLeastBackSaid : Prop := fnExactLeastBackRow.holds Try.pinned (OpenSpec.ofChange fnExactLeastBackSpec)

/-- ITS FALSE NEIGHBOUR: 'it returns false'. Refute it at one input. -/
def fnExactLeastBackWrong : ChangeSpec := { name := "fnExactLeastBack", fn := fun _ => fun
  | [d1, d2] => { results := [.lit (.bool false)], args := [d1, d2] }
  | _ => none }
def FnExactLeastBackWrongFalsely : Prop := fnExactLeastBackRow.holds Try.pinned (OpenSpec.ofChange fnExactLeastBackWrong)

/-- 'laws.FnStores': WHATEVER THE INPUT: true; the input reads as it did. -/
def fnStoresSpec : ChangeSpec := { name := "fnStores", fn := fun _ => fun
  | [d] => { results := [.lit (.bool true)], args := [d] }
  | _ => none }
def fnStoresRow : OpenClaim := { program := "ytlbecibchkamjaa", sum := "cac00f9a2862cb5c4aaaacc30bcdba2712f50811a29e9afc3cca334c797254f8", func := "loop.example/g03009/laws.FnStores", spec := "fnStores", unfollowed := true, recurses := true, apart := false }
def FnStoresSaid : Prop := fnStoresRow.holds Try.pinned (OpenSpec.ofChange fnStoresSpec)

/-- ITS FALSE NEIGHBOUR: 'it returns false'. Refute it at one input. -/
def fnStoresWrong : ChangeSpec := { name := "fnStores", fn := fun _ => fun
  | [d] => { results := [.lit (.bool false)], args := [d] }
  | _ => none }
def FnStoresWrongFalsely : Prop := fnStoresRow.holds Try.pinned (OpenSpec.ofChange fnStoresWrong)

/-- 'laws.FnFormulas': WHATEVER THE INPUT: true; the input reads as it did. -/
def fnFormulasSpec : ChangeSpec := { name := "fnFormulas", fn := fun _ => fun
  | [d] => { results := [.lit (.bool true)], args := [d] }
  | _ => none }
def fnFormulasRow : OpenClaim := { program := "ytlbecibchkamjaa", sum := "cac00f9a2862cb5c4aaaacc30bcdba2712f50811a29e9afc3cca334c797254f8", func := "loop.example/g03009/laws.FnFormulas", spec := "fnFormulas", recurses := true, apart := false }
def FnFormulasSaid : Prop := fnFormulasRow.holds Try.pinned (OpenSpec.ofChange fnFormulasSpec)

/-- ITS FALSE NEIGHBOUR: 'it returns false'. Refute it at one input. -/
def fnFormulasWrong : ChangeSpec := { name := "fnFormulas", fn := fun _ => fun
  | [d] => { results := [.lit (.bool false)], args := [d] }
  | _ => none }
def FnFormulasWrongFalsely : Prop := fnFormulasRow.holds Try.pinned (OpenSpec.ofChange fnFormulasWrong)

/- THE SECOND FORM. 'bulk': how many values and letters a reading holds, each counted each time it is reached (what is shared counts as often as it is met; a slice's spare places count too). A statement '..UptoSaid' is the law's where the arguments, and the package variables that the reading takes, are together of bulk at most 1048576: NARROWER than '..Said'. Prove '..Said' where nothing that the law and all that it calls make is longer than what came in: it says more and counts as full. Else prove '..UptoSaid'. A law counts once. -/
mutual
def uptoBulk {H : Type} : DataW H → Nat
  | .lit (.string bytes) => bytes.length + 1
  | .lit _ => 1
  | .nil => 1
  | .ptr d => uptoBulk d + 1
  | .slice elems spare => uptoBulkAll elems + uptoBulkAll spare + 1
  | .agg parts => uptoBulkAll parts + 1
  | .iface _ d => uptoBulk d + 1
  | .map entries => uptoBulkEntries entries + 1
  | .held _ => 1
def uptoBulkAll {H : Type} : List (DataW H) → Nat
  | [] => 0
  | d :: r => uptoBulk d + uptoBulkAll r
def uptoBulkEntries {H : Type} : List (Lit × DataW H) → Nat
  | [] => 0
  | x :: r => uptoBulkEntry x + uptoBulkEntries r
def uptoBulkEntry {H : Type} : Lit × DataW H → Nat
  | (.string bytes, d) => bytes.length + uptoBulk d + 1
  | (_, d) => uptoBulk d + 1
 end
def uptoSmall : (H : Type) → List (DataW H) → Bool := fun _ ds => decide (uptoBulkAll ds ≤ 1048576)
def OpenSpec.upto (s : _root_.Go.ChangeSpec) : _root_.Go.OpenSpec := { _root_.Go.OpenSpec.ofChange s with cond := some uptoSmall }

/-- 'laws.FnExactTakeBack', WHERE WHAT IT READS IS OF BULK AT MOST 1048576: true; the input reads as it did. -/
def fnExactTakeBackUptoRow : OpenClaim := { program := "ytlbecibchkamjaa", sum := "cac00f9a2862cb5c4aaaacc30bcdba2712f50811a29e9afc3cca334c797254f8", func := "loop.example/g03009/laws.FnExactTakeBack", spec := "fnExactTakeBack", unfollowed := true, recurses := true, apart := false, narrowed := true }
def FnExactTakeBackUptoSaid : Prop := fnExactTakeBackUptoRow.holds Try.pinned (OpenSpec.upto fnExactTakeBackSpec)

/-- 'laws.FnExactIsStore', WHERE WHAT IT READS IS OF BULK AT MOST 1048576: true; the input reads as it did. -/
def fnExactIsStoreUptoRow : OpenClaim := { program := "ytlbecibchkamjaa", sum := "cac00f9a2862cb5c4aaaacc30bcdba2712f50811a29e9afc3cca334c797254f8", func := "loop.example/g03009/laws.FnExactIsStore", spec := "fnExactIsStore", unfollowed := true, recurses := true, apart := false, narrowed := true }
def FnExactIsStoreUptoSaid : Prop := fnExactIsStoreUptoRow.holds Try.pinned (OpenSpec.upto fnExactIsStoreSpec)

/-- 'laws.FnExactMustAdmit', WHERE WHAT IT READS IS OF BULK AT MOST 1048576: true; the input reads as it did. -/
def fnExactMustAdmitUptoRow : OpenClaim := { program := "ytlbecibchkamjaa", sum := "cac00f9a2862cb5c4aaaacc30bcdba2712f50811a29e9afc3cca334c797254f8", func := "loop.example/g03009/laws.FnExactMustAdmit", spec := "fnExactMustAdmit", unfollowed := true, recurses := true, apart := false, narrowed := true }
def FnExactMustAdmitUptoSaid : Prop := fnExactMustAdmitUptoRow.holds Try.pinned (OpenSpec.upto fnExactMustAdmitSpec)

/-- 'laws.FnExactQuarrels', WHERE WHAT IT READS IS OF BULK AT MOST 1048576: true; the input reads as it did. -/
def fnExactQuarrelsUptoRow : OpenClaim := { program := "ytlbecibchkamjaa", sum := "cac00f9a2862cb5c4aaaacc30bcdba2712f50811a29e9afc3cca334c797254f8", func := "loop.example/g03009/laws.FnExactQuarrels", spec := "fnExactQuarrels", unfollowed := true, recurses := true, apart := false, narrowed := true }
def FnExactQuarrelsUptoSaid : Prop := fnExactQuarrelsUptoRow.holds Try.pinned (OpenSpec.upto fnExactQuarrelsSpec)

/-- 'laws.FnExactSay', WHERE WHAT IT READS IS OF BULK AT MOST 1048576: true; the input reads as it did. -/
def fnExactSayUptoRow : OpenClaim := { program := "ytlbecibchkamjaa", sum := "cac00f9a2862cb5c4aaaacc30bcdba2712f50811a29e9afc3cca334c797254f8", func := "loop.example/g03009/laws.FnExactSay", spec := "fnExactSay", unfollowed := true, recurses := true, apart := false, narrowed := true }
def FnExactSayUptoSaid : Prop := fnExactSayUptoRow.holds Try.pinned (OpenSpec.upto fnExactSaySpec)

/-- 'laws.FnExactLeastBack', WHERE WHAT IT READS IS OF BULK AT MOST 1048576: true; the input reads as it did. -/
def fnExactLeastBackUptoRow : OpenClaim := { program := "ytlbecibchkamjaa", sum := "cac00f9a2862cb5c4aaaacc30bcdba2712f50811a29e9afc3cca334c797254f8", func := "loop.example/g03009/laws.FnExactLeastBack", spec := "fnExactLeastBack", unfollowed := true, recurses := true, apart := false, narrowed := true }
def FnExactLeastBackUptoSaid : Prop := fnExactLeastBackUptoRow.holds Try.pinned (OpenSpec.upto fnExactLeastBackSpec)

/-- 'laws.FnStores', WHERE WHAT IT READS IS OF BULK AT MOST 1048576: true; the input reads as it did. -/
def fnStoresUptoRow : OpenClaim := { program := "ytlbecibchkamjaa", sum := "cac00f9a2862cb5c4aaaacc30bcdba2712f50811a29e9afc3cca334c797254f8", func := "loop.example/g03009/laws.FnStores", spec := "fnStores", unfollowed := true, recurses := true, apart := false, narrowed := true }
def FnStoresUptoSaid : Prop := fnStoresUptoRow.holds Try.pinned (OpenSpec.upto fnStoresSpec)

/-- 'laws.FnFormulas', WHERE WHAT IT READS IS OF BULK AT MOST 1048576: true; the input reads as it did. -/
def fnFormulasUptoRow : OpenClaim := { program := "ytlbecibchkamjaa", sum := "cac00f9a2862cb5c4aaaacc30bcdba2712f50811a29e9afc3cca334c797254f8", func := "loop.example/g03009/laws.FnFormulas", spec := "fnFormulas", recurses := true, apart := false, narrowed := true }
def FnFormulasUptoSaid : Prop := fnFormulasUptoRow.holds Try.pinned (OpenSpec.upto fnFormulasSpec)

end Rows
end Go.Proofs.Ytlbecibchkamjaa
