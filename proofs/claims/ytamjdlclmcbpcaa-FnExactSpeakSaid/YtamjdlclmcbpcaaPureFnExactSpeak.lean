/- The plain statement of the law FnExactSpeak, for all numbers and lists. -/
import Derived.Test.YtamjdlclmcbpcaaPFnExactSpeakx0
import Derived.Test.YtamjdlclmcbpcaaPFnExactSpeakx1
import Derived.Test.YtamjdlclmcbpcaaBase
set_option linter.unusedVariables false
set_option linter.unusedSimpArgs false
namespace Go.Proofs.Ytamjdlclmcbpcaa.Pure
open Go.RowKit Go.Proofs.Ytamjdlclmcbpcaa.PFnExactSpeak Go.Proofs.YtamjdlclmcbpcaaW.PrintWords Go.Proofs.YtamjdlclmcbpcaaW.PrintLast Go.Proofs.YtamjdlclmcbpcaaW.PrintMore Go.Proofs.Ytamjdlclmcbpcaa.Base
theorem l1In_eq (x a b : Int) : spec_l1In.f x a b = some (decide (a ≤ x ∧ x ≤ b)) := by
  unfold spec_l1In.f
  by_cases h : a ≤ x <;> simp [h]
theorem inRange_eq (x a b : Int) : impl_InRange.f x a b = some (decide (a ≤ x ∧ x ≤ b)) := by
  unfold impl_InRange.f
  by_cases h : a ≤ x <;> simp [h]

theorem toSlot_eq (a b c : Int) : laws_toSlot.f a b c = some (a, b, c) := rfl
def isSlot (a b c : Int) : Prop := (1 ≤ a ∧ a ≤ 99) ∧ (1 ≤ b ∧ b ≤ 1000) ∧ 0 ≤ c ∧ c ≤ b + 15
instance (a b c : Int) : Decidable (isSlot a b c) := by unfold isSlot; infer_instance
theorem isSlot_spec (a b c : Int) : spec_IsSlot.f a b c = some (decide (isSlot a b c)) := by
  unfold spec_IsSlot.f isSlot
  simp only [l1In_eq, Option.bind_some]
  by_cases h1 : 1 ≤ a ∧ a ≤ 99
  · by_cases h2 : 1 ≤ b ∧ b ≤ 1000
    · rw [wrap_id (by omega) (by omega)]
      simp [h1, h2]
    · simp [h2]
  · simp [h1]
def isSlotI (a b c : Int) : Prop := (1 ≤ a ∧ a ≤ 99) ∧ (1 ≤ b ∧ b ≤ 1000) ∧ 0 ≤ c ∧ c ≤ b + 15
instance (a b c : Int) : Decidable (isSlotI a b c) := by unfold isSlotI; infer_instance
theorem isSlot_impl (a b c : Int) : impl_IsSlot.f a b c = some (decide (isSlotI a b c)) := by
  unfold impl_IsSlot.f isSlotI
  simp only [inRange_eq, Option.bind_some]
  by_cases h1 : 1 ≤ a ∧ a ≤ 99
  · by_cases h2 : 1 ≤ b ∧ b ≤ 1000
    · rw [wrap_id (by omega) (by omega)]
      simp [h1, h2]
    · simp [h2]
  · simp [h1]
theorem isSlot_same (a b c : Int) : impl_IsSlot.f a b c = spec_IsSlot.f a b c := by
  rw [isSlot_impl, isSlot_spec]
  rfl
theorem FnExactSpeak (a0_0 : Int) (g0_0 : (Lit.int .i64 a0_0).wf = true) (a0_1 : Int) (g0_1 : (Lit.int .i64 a0_1).wf = true) (a0_2 : Int) (g0_2 : (Lit.int .i64 a0_2).wf = true) (a1 : Int) (g1 : (Lit.int .i64 a1).wf = true) : laws_FnExactSpeak.f a0_0 a0_1 a0_2 a1 = some true := by
  have he : impl_Speak.f a0_0 a0_1 a0_2 a1 = spec_Speak.f a0_0 a0_1 a0_2 a1 := by
    unfold impl_Speak.f spec_Speak.f spec_Min.f mn
    rw [isSlot_same]
    simp only [isSlot_spec, Option.bind_some]
    by_cases h : isSlot a0_0 a0_1 a0_2
    · simp only [h, decide_true, if_true]
      by_cases hn : a1 < 0
      · rw [if_pos hn, if_pos hn]
      · rw [if_neg hn, if_neg hn]
        by_cases hl : wrap64 (wrap64 (a0_1 + 15) - a0_2) < a1 <;> simp [hl]
    · simp [h]
  obtain ⟨x, y, z, n, hs⟩ : ∃ x y z n, spec_Speak.f a0_0 a0_1 a0_2 a1 = some (x, y, z, n) := by
    unfold spec_Speak.f spec_Min.f
    simp only [isSlot_spec, Option.bind_some]
    split
    · split
      · exact ⟨_, _, _, _, rfl⟩
      · split <;> exact ⟨_, _, _, _, rfl⟩
    · exact ⟨_, _, _, _, rfl⟩
  unfold laws_FnExactSpeak.f
  simp only [toSlot_eq, Option.bind_some, he, hs]
  unfold laws_eqSlot.f
  simp

end Go.Proofs.Ytamjdlclmcbpcaa.Pure
