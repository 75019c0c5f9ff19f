/- The law FnDisputes, for every input: its row, out of the plain statement Pure.FnDisputes and the contract of the function. Written by a program of this session (rows.py). -/
import Derived.Test.YtdlobolnajcfnaaRows
import Derived.Test.YtdlobolnajcfnaaPFnDisputesx20
import Derived.Test.YtdlobolnajcfnaaPureFnDisputes
import Derived.Test.YtdlobolnajcfnaaOpen
import Derived.WalkKit
import Derived.ProofKit
import Derived.OpenShut
import Derived.ShutString
import Derived.ChangeOld
import Derived.Below
import Derived.SizedLaws
import Derived.Lib.SmallJoins
namespace Go.Proofs.Ytdlobolnajcfnaa.fnDisputes
open Go.ChangeShapes Go.WideShapes Go.ChangeAt Go.RowKit
open Go.Proofs.Ytdlobolnajcfnaa.PFnDisputes Go.Proofs.YtdlobolnajcfnaaW.PrintWords
open Go.ChangeMaps (open_string shut_string)
theorem own : ownKnob Try.prog.godebug = none := by kernel_rfl
theorem laidOut : laidOutB Try.prog = true := by kernel_rfl
set_option linter.unusedVariables false
set_option maxRecDepth 100000 in
theorem lifted (os : Os) (started : os.Started) (H : Type) (enc : TypeId × Value → H) :
    ReturnsInHanded {} Try.checked os 7 .any (Rows.fnDisputesSpec.pre6 enc Try.prog Try.f7 Rows.fnDisputesRow.domain false) (Rows.fnDisputesSpec.post enc Try.prog Try.f7 false true false false) := by
  refine returnsInHanded_of_change_sized (C := Try.checked) own started (by kernel_rfl) Try.func7
    (ChangeSpec.witness6 (enc := enc) (C := Try.checked) false ⟨#[], #[.slice none 0 0], []⟩ 8 (by kernel_rfl) (by kernel_rfl) (by kernel_rfl) (by kernel_rfl)) ?_
  intro W base args ds gs before hval0 hW hcnd hsz0 _
  have hval : ∀ (j : Nat) t v, Try.f7.params[j]? = some t → args[j]? = some v → Value.okWide Try.prog W .any base t v := hval0
  have hW' := hW
  obtain ⟨p, q, hA0, hV, rfl, hfz, hnd⟩ := hW
  have hA : DataW.TrodAll enc Try.prog W 0 (fun _ => true) true Try.f7.params.toList args.toList ds p := hA0
  rw [Try.params7] at hA hval
  obtain ⟨v0, vs0, d0, ds0, p0, q0, hargs, rfl, rfl, h0, r0⟩ := trodAll_cons hA
  obtain ⟨rfl, rfl, rfl⟩ := trodAll_nil r0
  obtain rfl : args = #[v0] := by cases args; simp_all
  obtain ⟨rfl, rfl⟩ := trodVars_none hV
  have k0 := h0
  have lt0 : ∀ x ∈ p0, x.block < W.heap.size := by obtain ⟨m, hm⟩ := k0; exact DataW.trod_lt m _ _ _ hm
  obtain ⟨Ax0, lx0, cx0, rfl⟩ := okWide_slice Try.underlying36 (hval 0 36 v0 rfl rfl)
  obtain ⟨fuel0, e0⟩ := h0
  obtain ⟨l0, hK0, g0⟩ := (Opn.opens_slice (P := Try.prog) (d := (Kd.int .u8)) Try.underlying36 (show Try.prog.cellsOf 5 = 1 by kernel_rfl) (Opn.opens_int Try.underlying5)) e0
  obtain ⟨A0, c0, z0, hc0, hr0⟩ := Opn.slice_cell hK0
  simp only [Value.slice.injEq] at z0
  obtain ⟨rfl, rfl, rfl⟩ := z0
  clear hA0 hval0
  obtain ⟨k, h⟩ := Pure.FnDisputes l0 g0
  refine (PFnDisputes.laws_FnDisputes.calls k Ax0 cx0 l0 true W hr0 hc0 h).mono ?_
  rintro e W' ⟨rfl, bel0⟩
  have bel : Below W.heap.size W W' := bel0
  exact ⟨_, rfl, _, _, _, [], _, [], hW', trodAll_mk1 (shut_bool Try.underlying4 _), (trodAll_cons_mk (Below.trod laidOut (by kernel_rfl) (of_decide_eq_true (by kernel_rfl)) k0 bel lt0) trodAll_mk0), rfl, bel.frame _, fun h => by cases h⟩
theorem over : Rows.fnDisputesRow.holds Try.pinned (OpenSpec.ofChange Rows.fnDisputesSpec) :=
  OpenClaim.holds_of_wide 7 Try.f7 rfl rfl rfl rfl rfl rfl rfl ⟨rfl, rfl, rfl, rfl, rfl⟩ rfl rfl rfl rfl rfl (by kernel_rfl) Try.func7 (by kernel_rfl)
    (of_decide_eq_true (by kernel_rfl)) (by unfold Func.isWrapper; first | (rw [if_pos (by decide +kernel)]; kernel_rfl) | (rw [if_neg (by decide +kernel)]; exact ⟨rfl, rfl⟩))
    (fun os started H enc _ => lifted os started H enc)
theorem proved : Rows.FnDisputesSaid := over
#print axioms proved
end Go.Proofs.Ytdlobolnajcfnaa.fnDisputes
namespace Go.Proofs.Ytdlobolnajcfnaa
/-- The row, under a short name, for the claim. -/
theorem fnDisputes_holds : Rows.FnDisputesSaid := fnDisputes.proved
end Go.Proofs.Ytdlobolnajcfnaa
