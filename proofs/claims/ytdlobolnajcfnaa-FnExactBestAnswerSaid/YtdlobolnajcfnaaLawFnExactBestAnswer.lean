/- The law FnExactBestAnswer, for every input: its row, out of the plain statement Pure.FnExactBestAnswer and the contract of the function. Written by a program of this session (rows.py). -/
import Derived.Test.YtdlobolnajcfnaaRows
import Derived.Test.YtdlobolnajcfnaaPFnExactBestAnswerx10
import Derived.Test.YtdlobolnajcfnaaPureFnExactBestAnswer
import Derived.Test.YtdlobolnajcfnaaOpen
import Derived.WalkKit
import Derived.ProofKit
import Derived.OpenShut
import Derived.ShutString
import Derived.ChangeOld
import Derived.Below
import Derived.SizedLaws
import Derived.Lib.SmallJoins
namespace Go.Proofs.Ytdlobolnajcfnaa.fnExactBestAnswer
open Go.ChangeShapes Go.WideShapes Go.ChangeAt Go.RowKit
open Go.Proofs.Ytdlobolnajcfnaa.PFnExactBestAnswer Go.Proofs.YtdlobolnajcfnaaW.PrintWords
open Go.ChangeMaps (open_string shut_string)
theorem own : ownKnob Try.prog.godebug = none := by kernel_rfl
theorem laidOut : laidOutB Try.prog = true := by kernel_rfl
set_option linter.unusedVariables false
set_option maxRecDepth 100000 in
theorem lifted (os : Os) (started : os.Started) (H : Type) (enc : TypeId × Value → H) :
    ReturnsInHanded {} Try.checked os 4 .any (Rows.fnExactBestAnswerSpec.pre6 enc Try.prog Try.f4 Rows.fnExactBestAnswerRow.domain false) (Rows.fnExactBestAnswerSpec.post enc Try.prog Try.f4 false true false false) := by
  refine returnsInHanded_of_change_sized (C := Try.checked) own started (by kernel_rfl) Try.func4
    (ChangeSpec.witness6 (enc := enc) (C := Try.checked) false ⟨#[], #[.agg #[.int .i64 0, .slice none 0 0], .slice none 0 0, .int .i64 0], []⟩ 8 (by kernel_rfl) (by kernel_rfl) (by kernel_rfl) (by kernel_rfl)) ?_
  intro W base args ds gs before hval0 hW hcnd hsz0 _
  have hval : ∀ (j : Nat) t v, Try.f4.params[j]? = some t → args[j]? = some v → Value.okWide Try.prog W .any base t v := hval0
  have hW' := hW
  obtain ⟨p, q, hA0, hV, rfl, hfz, hnd⟩ := hW
  have hA : DataW.TrodAll enc Try.prog W 0 (fun _ => true) true Try.f4.params.toList args.toList ds p := hA0
  rw [Try.params4] at hA hval
  obtain ⟨v0, vs0, d0, ds0, p0, q0, hargs, rfl, rfl, h0, r0⟩ := trodAll_cons hA
  obtain ⟨v1, vs1, d1, ds1, p1, q1, rfl, rfl, rfl, h1, r1⟩ := trodAll_cons r0
  obtain ⟨v2, vs2, d2, ds2, p2, q2, rfl, rfl, rfl, h2, r2⟩ := trodAll_cons r1
  obtain ⟨rfl, rfl, rfl⟩ := trodAll_nil r2
  obtain rfl : args = #[v0, v1, v2] := by cases args; simp_all
  obtain ⟨rfl, rfl⟩ := trodVars_none hV
  have k0 := h0
  have lt0 : ∀ x ∈ p0, x.block < W.heap.size := by obtain ⟨m, hm⟩ := k0; exact DataW.trod_lt m _ _ _ hm
  obtain ⟨v0_0, v0_1, y0_0, y0_1, n0, rfl, rfl, rfl, e0_0, e0_1⟩ := Go.Joins.open_agg2 Try.underlying24 (by kernel_rfl) (show Try.prog.cellsOf 24 = 2 by kernel_rfl) (hval 0 24 v0 rfl rfl) h0
  obtain ⟨a0_0, z0_0, _, g0_0⟩ := DataW.trod_int Try.underlying3 e0_0
  obtain rfl : v0_0 = .int .i64 a0_0 := by simpa using z0_0
  obtain ⟨l0_1, hK0_1, g0_1⟩ := (Opn.opens_slice (P := Try.prog) (d := (Kd.slice 3 (Kd.int .i64))) Try.underlying22 (show Try.prog.cellsOf 31 = 1 by kernel_rfl) (Opn.opens_slice (P := Try.prog) (d := (Kd.int .i64)) Try.underlying31 (show Try.prog.cellsOf 3 = 1 by kernel_rfl) (Opn.opens_int Try.underlying3))) e0_1
  obtain ⟨A0_1, c0_1, z0_1, hc0_1, hr0_1⟩ := Opn.slice_cell hK0_1
  subst z0_1
  have k1 := h1
  have lt1 : ∀ x ∈ p1, x.block < W.heap.size := by obtain ⟨m, hm⟩ := k1; exact DataW.trod_lt m _ _ _ hm
  obtain ⟨Ax1, lx1, cx1, rfl⟩ := okWide_slice Try.underlying31 (hval 1 31 v1 rfl rfl)
  obtain ⟨fuel1, e1⟩ := h1
  obtain ⟨l1, hK1, g1⟩ := (Opn.opens_slice (P := Try.prog) (d := (Kd.int .i64)) Try.underlying31 (show Try.prog.cellsOf 3 = 1 by kernel_rfl) (Opn.opens_int Try.underlying3)) e1
  obtain ⟨A1, c1, z1, hc1, hr1⟩ := Opn.slice_cell hK1
  simp only [Value.slice.injEq] at z1
  obtain ⟨rfl, rfl, rfl⟩ := z1
  have k2 := h2
  have lt2 : ∀ x ∈ p2, x.block < W.heap.size := by obtain ⟨m, hm⟩ := k2; exact DataW.trod_lt m _ _ _ hm
  obtain ⟨a2, rfl, rfl, rfl, g2⟩ := open_int Try.underlying3 (hval 2 3 v2 rfl rfl) h2
  clear hA0 hval0
  obtain ⟨k, h⟩ := Pure.FnExactBestAnswer a0_0 g0_0 l0_1 g0_1 l1 g1 a2 g2
  refine (PFnExactBestAnswer.laws_FnExactBestAnswer.calls k a0_0 A0_1 c0_1 l0_1 Ax1 cx1 l1 a2 true W hr0_1 hc0_1 hr1 hc1 h).mono ?_
  rintro e W' ⟨rfl, bel0⟩
  have bel : Below W.heap.size W W' := bel0
  exact ⟨_, rfl, _, _, _, [], _, [], hW', trodAll_mk1 (shut_bool Try.underlying4 _), (trodAll_cons_mk (Below.trod laidOut (by kernel_rfl) (of_decide_eq_true (by kernel_rfl)) k0 bel lt0) (trodAll_cons_mk (Below.trod laidOut (by kernel_rfl) (of_decide_eq_true (by kernel_rfl)) k1 bel lt1) (trodAll_cons_mk (Below.trod laidOut (by kernel_rfl) (of_decide_eq_true (by kernel_rfl)) k2 bel lt2) trodAll_mk0))), rfl, bel.frame _, fun h => by cases h⟩
theorem over : Rows.fnExactBestAnswerRow.holds Try.pinned (OpenSpec.ofChange Rows.fnExactBestAnswerSpec) :=
  OpenClaim.holds_of_wide 4 Try.f4 rfl rfl rfl rfl rfl rfl rfl ⟨rfl, rfl, rfl, rfl, rfl⟩ rfl rfl rfl rfl rfl (by kernel_rfl) Try.func4 (by kernel_rfl)
    (of_decide_eq_true (by kernel_rfl)) (by unfold Func.isWrapper; first | (rw [if_pos (by decide +kernel)]; kernel_rfl) | (rw [if_neg (by decide +kernel)]; exact ⟨rfl, rfl⟩))
    (fun os started H enc _ => lifted os started H enc)
theorem proved : Rows.FnExactBestAnswerSaid := over
#print axioms proved
end Go.Proofs.Ytdlobolnajcfnaa.fnExactBestAnswer
namespace Go.Proofs.Ytdlobolnajcfnaa
/-- The row, under a short name, for the claim. -/
theorem fnExactBestAnswer_holds : Rows.FnExactBestAnswerSaid := fnExactBestAnswer.proved
end Go.Proofs.Ytdlobolnajcfnaa
