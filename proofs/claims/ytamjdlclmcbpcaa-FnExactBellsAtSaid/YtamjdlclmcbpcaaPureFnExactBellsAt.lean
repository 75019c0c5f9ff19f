/- The plain statement of the law FnExactBellsAt, for all numbers and lists. -/
import Derived.Test.YtamjdlclmcbpcaaPFnExactBellsAtx0
import Derived.Test.YtamjdlclmcbpcaaPFnExactBellsAtx1
import Derived.Test.YtamjdlclmcbpcaaPFnExactBellsAtx2
import Derived.Test.YtamjdlclmcbpcaaBase
set_option linter.unusedVariables false
set_option linter.unusedSimpArgs false
namespace Go.Proofs.Ytamjdlclmcbpcaa.Pure
open Go.RowKit Go.Proofs.Ytamjdlclmcbpcaa.PFnExactBellsAt Go.Proofs.YtamjdlclmcbpcaaW.PrintWords Go.Proofs.YtamjdlclmcbpcaaW.PrintLast Go.Proofs.YtamjdlclmcbpcaaW.PrintMore Go.Proofs.Ytamjdlclmcbpcaa.Base
theorem eqIntS_l0 (xs ys : List Int) (hl : xs.length = ys.length) (hn : xs.length ≤ 9223372036854775807) : ∀ (zs us : List Int) (i : Nat), xs.drop i = zs → ys.drop i = us → Ev (fun k => laws_eqIntS.l0 k xs ys (i : Int)) (decide (zs = us)) := by
  intro zs
  induction zs with
  | nil =>
    intro us i h hu
    have := at_end h
    refine Ev.step (fun k => by rw [laws_eqIntS.l0]) (ev_neg (by omega) ?_)
    rw [List.drop_of_length_le (by omega)] at hu
    subst hu
    exact ev_eq (Ev.now _) (by simp)
  | cons z zs ih =>
    intro us i h hu
    obtain ⟨hi, hz, h', _⟩ := at_drop h
    cases us with
    | nil => have := at_end hu; omega
    | cons u us =>
      obtain ⟨_, hzu, hu', _⟩ := at_drop hu
      refine Ev.step (fun k => by rw [laws_eqIntS.l0]) (ev_pos (by omega) (ev_pos (by omega) (ev_pos (by omega) ?_)))
      rw [wrap_id (by omega) (by omega), rd_get hz, rd_get hzu]
      refine ev_ite (fun e => ev_eq (ih us (i + 1) h' hu') (by simp [e])) (fun e => ev_eq (Ev.now _) (by simp [e]))
theorem eqIntS_ev (xs ys : List Int) (hn : xs.length ≤ 9223372036854775807) : Ev (fun k => laws_eqIntS.f k xs ys) (decide (xs = ys)) := by
  unfold laws_eqIntS.f
  refine ev_ite (fun e => eqIntS_l0 xs ys (by omega) hn xs ys 0 rfl rfl) (fun e => ev_eq (Ev.now _) ?_)
  have : xs ≠ ys := by rintro rfl; exact e rfl
  simp [this]
theorem eqIntS_same (xs : List Int) (hn : xs.length ≤ 9223372036854775807) : Ev (fun k => laws_eqIntS.f k xs xs) true := ev_eq (eqIntS_ev xs xs hn) (by simp)
theorem markIntS_l0 : ∀ (d i : Nat) (xs : List Int) (k0 : Int), i + d = xs.length → 0 ≤ k0 → k0 + d ≤ 9223372036854775807 → xs.length ≤ 9223372036854775807 → Ev (fun k => laws_markIntS.l0 k xs k0 (i : Int)) (k0 + d, xs.take i ++ upFrom k0 d) := by
  intro d
  induction d with
  | zero =>
    intro i xs k0 h _ _ _
    refine Ev.step (fun k => by rw [laws_markIntS.l0]) (ev_neg (by omega) (ev_eq (Ev.now _) ?_))
    rw [List.take_of_length_le (by omega)]
    simp [upFrom]
  | succ d ih =>
    intro i xs k0 h h0 h1 h2
    refine Ev.step (fun k => by rw [laws_markIntS.l0]) (ev_pos (by omega) (ev_pos (by omega) ?_))
    rw [wrap_id (x := (i : Int) + 1) (by omega) (by omega), wrap_id (by omega) (by omega), Int.toNat_natCast]
    refine ev_eq (ih (i + 1) _ (k0 + 1) (by simp; omega) (by omega) (by omega) (by simpa using h2)) (Prod.ext (by simp; omega) ?_)
    show List.take (i + 1) (xs.set i k0) ++ upFrom (k0 + 1) d = xs.take i ++ upFrom k0 (d + 1)
    rw [take_set_at (by omega), upFrom_succ]
    simp
theorem markIntS_ev (xs : List Int) (k0 : Int) (h0 : 0 ≤ k0) (h1 : k0 + xs.length ≤ 9223372036854775807) : Ev (fun k => laws_markIntS.f k xs k0) (k0 + xs.length, upFrom k0 xs.length) := by
  unfold laws_markIntS.f
  exact ev_eq (markIntS_l0 xs.length 0 xs k0 (by omega) h0 h1 (by omega)) (by simp)
theorem heldIntS_l0 (k1 : Int) (n : Nat) (h0 : 0 ≤ k1) (h1 : k1 + n ≤ 9223372036854775807) : ∀ (d i : Nat), i + d = n → Ev (fun k => laws_heldIntS.l0 k (upFrom k1 n) (k1 + i) (i : Int)) (k1 + n) := by
  intro d
  induction d with
  | zero =>
    intro i h
    refine Ev.step (fun k => by rw [laws_heldIntS.l0]) (ev_neg (by rw [upFrom_length]; omega) ?_)
    exact ev_eq (Ev.now _) (by omega)
  | succ d ih =>
    intro i h
    refine Ev.step (fun k => by rw [laws_heldIntS.l0]) (ev_pos (by rw [upFrom_length]; omega) (ev_pos (by omega) (ev_pos (rd_get (upFrom_get k1 n i (by omega))) ?_)))
    rw [wrap_id (x := (i : Int) + 1) (by omega) (by omega), wrap_id (by omega) (by omega)]
    have := ih (i + 1) (by omega)
    rw [show k1 + ((i + 1 : Nat) : Int) = k1 + i + 1 by omega] at this
    exact this
theorem heldIntS_ev (k1 : Int) (n : Nat) (h0 : 0 ≤ k1) (h1 : k1 + n ≤ 9223372036854775807) : Ev (fun k => laws_heldIntS.f k (upFrom k1 n) k1) (k1 + n) := by
  unfold laws_heldIntS.f
  have := heldIntS_l0 k1 n h0 h1 n 0 (by omega)
  simpa using this
theorem l1In_eq (x a b : Int) : spec_l1In.f x a b = some (decide (a ≤ x ∧ x ≤ b)) := by
  unfold spec_l1In.f
  by_cases h : a ≤ x <;> simp [h]
theorem inRange_eq (x a b : Int) : impl_InRange.f x a b = some (decide (a ≤ x ∧ x ≤ b)) := by
  unfold impl_InRange.f
  by_cases h : a ≤ x <;> simp [h]

theorem toSlot_eq (a b c : Int) : laws_toSlot.f a b c = some (a, b, c) := rfl
def isSlot (a b c : Int) : Prop := (1 ≤ a ∧ a ≤ 99) ∧ (1 ≤ b ∧ b ≤ 1000) ∧ 0 ≤ c ∧ c ≤ b + 15
instance (a b c : Int) : Decidable (isSlot a b c) := by unfold isSlot; infer_instance
theorem isSlot_spec (a b c : Int) : spec_IsSlot.f a b c = some (decide (isSlot a b c)) := by
  unfold spec_IsSlot.f isSlot
  simp only [l1In_eq, Option.bind_some]
  by_cases h1 : 1 ≤ a ∧ a ≤ 99
  · by_cases h2 : 1 ≤ b ∧ b ≤ 1000
    · rw [wrap_id (by omega) (by omega)]
      simp [h1, h2]
    · simp [h2]
  · simp [h1]
def isSlotI (a b c : Int) : Prop := (1 ≤ a ∧ a ≤ 99) ∧ (1 ≤ b ∧ b ≤ 1000) ∧ 0 ≤ c ∧ c ≤ b + 15
instance (a b c : Int) : Decidable (isSlotI a b c) := by unfold isSlotI; infer_instance
theorem isSlot_impl (a b c : Int) : impl_IsSlot.f a b c = some (decide (isSlotI a b c)) := by
  unfold impl_IsSlot.f isSlotI
  simp only [inRange_eq, Option.bind_some]
  by_cases h1 : 1 ≤ a ∧ a ≤ 99
  · by_cases h2 : 1 ≤ b ∧ b ≤ 1000
    · rw [wrap_id (by omega) (by omega)]
      simp [h1, h2]
    · simp [h2]
  · simp [h1]
theorem isSlot_same (a b c : Int) : impl_IsSlot.f a b c = spec_IsSlot.f a b c := by
  rw [isSlot_impl, isSlot_spec]
  rfl
def bells (a b c : Int) : List Int := if isSlot a b c then (if b > 120 then [60, b - 60] ++ [b, b + 15] else [b, b + 15]) else []
theorem bells_length (a b c : Int) : (bells a b c).length ≤ 4 := by
  unfold bells
  split
  · split <;> simp
  · simp
theorem bells_spec (a b c : Int) : spec_BellsAt.f a b c = some (bells a b c) := by
  unfold spec_BellsAt.f bells
  simp only [isSlot_spec, Option.bind_some]
  by_cases h : isSlot a b c
  · have h' := h
    unfold isSlot at h'
    simp only [h, decide_true, if_true]
    rw [wrap_id (by omega) (by omega), wrap_id (by omega) (by omega)]
    by_cases h2 : b > 120
    · simp [h2, show b - 60 > 60 by omega]
    · simp [h2, show ¬ b - 60 > 60 by omega]
  · simp [h]
theorem bells_impl (a b c : Int) : impl_BellsAt.f a b c = some (bells a b c) := by
  unfold impl_BellsAt.f bells
  simp only [isSlot_same, isSlot_spec, Option.bind_some]
  by_cases h : isSlot a b c
  · have h' := h
    unfold isSlot at h'
    simp only [h, decide_true, if_true]
    rw [wrap_id (by omega) (by omega), wrap_id (by omega) (by omega)]
    by_cases h2 : b > 120
    · simp [h2]
    · simp [h2]
  · simp [h]
theorem FnExactBellsAt (a0_0 : Int) (g0_0 : (Lit.int .i64 a0_0).wf = true) (a0_1 : Int) (g0_1 : (Lit.int .i64 a0_1).wf = true) (a0_2 : Int) (g0_2 : (Lit.int .i64 a0_2).wf = true) : ∃ k, laws_FnExactBellsAt.f k a0_0 a0_1 a0_2 = some true := by
  have hl := bells_length a0_0 a0_1 a0_2
  refine Ev.rounds (g := fun k => laws_FnExactBellsAt.f k a0_0 a0_1 a0_2) ?_
  unfold laws_FnExactBellsAt.f
  refine ev_bind0 (toSlot_eq _ _ _) ?_
  dsimp only
  refine ev_bind0 (bells_spec _ _ _) (ev_bind0 (toSlot_eq _ _ _) ?_)
  dsimp only
  refine ev_bind0 (bells_impl _ _ _) (Ev.bind (eqIntS_same _ (by omega)) (ev_pos rfl ?_))
  refine Ev.bind (markIntS_ev _ 1 (by omega) (by omega)) (Ev.bind (heldIntS_ev 1 _ (by omega) (by omega)) (ev_neg (by omega) (ev_pos rfl ?_)))
  refine ev_bind0 (toSlot_eq _ _ _) ?_
  dsimp only
  refine ev_bind0 (bells_impl _ _ _) (Ev.bind (eqIntS_same _ (by omega)) (ev_pos rfl ?_))
  exact Ev.bind (heldIntS_ev 1 _ (by omega) (by omega)) (ev_neg (by omega) (ev_pos rfl (Ev.now _)))
def bellsI (a b c : Int) : List Int := if isSlotI a b c then (if b > 120 then [60, b - 60] ++ [b, b + 15] else [b, b + 15]) else []
theorem bellsI_length (a b c : Int) : (bellsI a b c).length ≤ 4 := by
  unfold bellsI
  split
  · split <;> simp
  · simp
theorem bellsI_impl (a b c : Int) : impl_BellsAt.f a b c = some (bellsI a b c) := by
  unfold impl_BellsAt.f bellsI
  simp only [isSlot_impl, Option.bind_some]
  by_cases h : isSlotI a b c
  · have h2 := h
    unfold isSlotI at h2
    simp only [h, decide_true, if_true]
    rw [wrap_id (by omega) (by omega), wrap_id (by omega) (by omega)]
    by_cases h2 : b > 120
    · simp [h2]
    · simp [h2]
  · simp [h]
end Go.Proofs.Ytamjdlclmcbpcaa.Pure
