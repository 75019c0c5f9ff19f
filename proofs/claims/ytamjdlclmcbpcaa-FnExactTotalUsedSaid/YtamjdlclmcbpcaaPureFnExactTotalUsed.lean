/- The plain statement of the law FnExactTotalUsed, for all numbers and lists. -/
import Derived.Test.YtamjdlclmcbpcaaPFnExactTotalUsedx0
import Derived.Test.YtamjdlclmcbpcaaPFnExactTotalUsedx1
import Derived.Test.YtamjdlclmcbpcaaPFnExactTotalUsedx2
import Derived.Test.YtamjdlclmcbpcaaBase
set_option linter.unusedVariables false
set_option linter.unusedSimpArgs false
namespace Go.Proofs.Ytamjdlclmcbpcaa.Pure
open Go.RowKit Go.Proofs.Ytamjdlclmcbpcaa.PFnExactTotalUsed Go.Proofs.YtamjdlclmcbpcaaW.PrintWords Go.Proofs.YtamjdlclmcbpcaaW.PrintLast Go.Proofs.YtamjdlclmcbpcaaW.PrintMore Go.Proofs.Ytamjdlclmcbpcaa.Base
theorem l1In_eq (x a b : Int) : spec_l1In.f x a b = some (decide (a ≤ x ∧ x ≤ b)) := by
  unfold spec_l1In.f
  by_cases h : a ≤ x <;> simp [h]
theorem inRange_eq (x a b : Int) : impl_InRange.f x a b = some (decide (a ≤ x ∧ x ≤ b)) := by
  unfold impl_InRange.f
  by_cases h : a ≤ x <;> simp [h]

theorem toSlot_eq (a b c : Int) : laws_toSlot.f a b c = some (a, b, c) := rfl
def isSlot (a b c : Int) : Prop := (1 ≤ a ∧ a ≤ 99) ∧ (1 ≤ b ∧ b ≤ 1000) ∧ 0 ≤ c ∧ c ≤ b + 15
instance (a b c : Int) : Decidable (isSlot a b c) := by unfold isSlot; infer_instance
theorem isSlot_spec (a b c : Int) : spec_IsSlot.f a b c = some (decide (isSlot a b c)) := by
  unfold spec_IsSlot.f isSlot
  simp only [l1In_eq, Option.bind_some]
  by_cases h1 : 1 ≤ a ∧ a ≤ 99
  · by_cases h2 : 1 ≤ b ∧ b ≤ 1000
    · rw [wrap_id (by omega) (by omega)]
      simp [h1, h2]
    · simp [h2]
  · simp [h1]
def isSlotI (a b c : Int) : Prop := (1 ≤ a ∧ a ≤ 99) ∧ (1 ≤ b ∧ b ≤ 1000) ∧ 0 ≤ c ∧ c ≤ b + 15
instance (a b c : Int) : Decidable (isSlotI a b c) := by unfold isSlotI; infer_instance
theorem isSlot_impl (a b c : Int) : impl_IsSlot.f a b c = some (decide (isSlotI a b c)) := by
  unfold impl_IsSlot.f isSlotI
  simp only [inRange_eq, Option.bind_some]
  by_cases h1 : 1 ≤ a ∧ a ≤ 99
  · by_cases h2 : 1 ≤ b ∧ b ≤ 1000
    · rw [wrap_id (by omega) (by omega)]
      simp [h1, h2]
    · simp [h2]
  · simp [h1]
theorem isSlot_same (a b c : Int) : impl_IsSlot.f a b c = spec_IsSlot.f a b c := by
  rw [isSlot_impl, isSlot_spec]
  rfl
def toSlot (x : S23) : S25 := ⟨x.f0, x.f1, x.f2⟩
theorem toSlotS_l0 (xs : List S23) (hn : xs.length ≤ 11728124029610) : ∀ (zs : List S23) (i : Nat) (ys : List S25), xs.drop i = zs → ys.length = xs.length → ys.take i = (xs.map toSlot).take i → Ev (fun k => laws_toSlotS.l0 k xs ys (i : Int)) (xs.map toSlot) := by
  intro zs
  induction zs with
  | nil =>
    intro i ys h hl ht
    have := at_end h
    refine Ev.step (fun k => by rw [laws_toSlotS.l0]) ?_
    refine ev_neg (by omega) ?_
    rw [List.take_of_length_le (by omega), List.take_of_length_le (by simp; omega)] at ht
    rw [ht]
    exact Ev.now _
  | cons z zs ih =>
    intro i ys h hl ht
    obtain ⟨hi, hz, h2, _⟩ := at_drop h
    have hr : rd_T23 xs (i : Int) = z := getD_at hz
    refine Ev.step (fun k => by rw [laws_toSlotS.l0]) ?_
    refine ev_pos (by omega) (ev_pos (by omega) (ev_bind0 (a := (z.f0, z.f1, z.f2)) (by rw [hr]; rfl) (ev_pos (by omega) ?_)))
    rw [wrap_id (by omega) (by omega), Int.toNat_natCast]
    refine ih (i + 1) _ h2 (by simp [hl]) ?_
    rw [take_set_at (by omega), take_at (z := toSlot z) (by simp [hz]), ht]
    rfl
theorem toSlotS_ev (xs : List S23) (hn : xs.length ≤ 11728124029610) : Ev (fun k => laws_toSlotS.f k xs) (xs.map toSlot) := by
  unfold laws_toSlotS.f
  exact ev_pos (by omega) (ev_pos (by omega) (toSlotS_l0 xs hn xs 0 _ rfl (by simp) (by simp)))
theorem eqSlot_eq (a b : S25) : laws_eqSlot.f a.f0 a.f1 a.f2 b.f0 b.f1 b.f2 = some (decide (a.f0 = b.f0 ∧ a.f1 = b.f1 ∧ a.f2 = b.f2)) := by
  unfold laws_eqSlot.f
  by_cases h0 : a.f0 = b.f0
  · by_cases h1 : a.f1 = b.f1
    · by_cases h2 : a.f2 = b.f2 <;> simp [h0, h1, h2]
    · simp [h1]
  · simp [h0]
theorem Slot_ext (a b : S25) : (a.f0 = b.f0 ∧ a.f1 = b.f1 ∧ a.f2 = b.f2) ↔ a = b := by
  cases a; cases b; simp
theorem eqSlotS_l0 (xs : List S25) (ys : List S25) (hl : xs.length = ys.length) (hn : xs.length ≤ 9223372036854775807) : ∀ (zs us : List S25) (i : Nat), xs.drop i = zs → ys.drop i = us → ∃ r : Bool, Ev (fun k => laws_eqSlotS.l0 k xs ys (i : Int)) r ∧ (r = true ↔ zs = us) := by
  intro zs
  induction zs with
  | nil =>
    intro us i h hu
    have := at_end h
    rw [List.drop_of_length_le (by omega)] at hu
    subst hu
    refine ⟨true, Ev.step (fun k => by rw [laws_eqSlotS.l0]) ?_, by simp⟩
    exact ev_neg (by omega) (Ev.now _)
  | cons z zs ih =>
    intro us i h hu
    obtain ⟨hi, hz, h2, _⟩ := at_drop h
    cases us with
    | nil => have := at_end hu; omega
    | cons u us =>
      obtain ⟨_, hzu, hu2, _⟩ := at_drop hu
      have hr : rd_T25 xs (i : Int) = z := getD_at hz
      have hr2 : rd_T25 ys (i : Int) = u := getD_at hzu
      obtain ⟨r, hev, hiff⟩ := ih us (i + 1) h2 hu2
      by_cases e : z.f0 = u.f0 ∧ z.f1 = u.f1 ∧ z.f2 = u.f2
      · refine ⟨r, Ev.step (fun k => by rw [laws_eqSlotS.l0]) ?_, ?_⟩
        · refine ev_pos (by omega) (ev_pos (by omega) (ev_pos (by omega) ?_))
          rw [wrap_id (by omega) (by omega), hr, hr2]
          exact ev_bind0 (eqSlot_eq z u) (ev_pos (by simpa using e) hev)
        · rw [hiff, (Slot_ext z u).1 e]
          simp
      · refine ⟨false, Ev.step (fun k => by rw [laws_eqSlotS.l0]) ?_, ?_⟩
        · refine ev_pos (by omega) (ev_pos (by omega) (ev_pos (by omega) ?_))
          rw [wrap_id (by omega) (by omega), hr, hr2]
          exact ev_bind0 (eqSlot_eq z u) (ev_neg (by simpa using e) (Ev.now _))
        · have : z ≠ u := fun he => e ((Slot_ext z u).2 he)
          simp [this]
theorem eqSlotS_same (xs : List S25) (hn : xs.length ≤ 9223372036854775807) : Ev (fun k => laws_eqSlotS.f k xs xs) true := by
  unfold laws_eqSlotS.f
  obtain ⟨r, hev, hiff⟩ := eqSlotS_l0 xs xs rfl hn xs xs 0 rfl rfl
  exact ev_pos rfl (ev_eq hev (hiff.2 rfl))
theorem szSlotS_cases (xs : List S23) (hn : xs.length ≤ 9223372036854775807) : ∃ r : Int, laws_szSlotS.f xs 1048576 = some r ∧ (¬ r < 0 → xs.length ≤ 1048576) := by
  unfold laws_szSlotS.f
  rw [wrap_id (by omega) (by omega)]
  by_cases h : (1048576 : Int) - xs.length < 0
  · exact ⟨-1, by rw [if_pos h], by omega⟩
  · exact ⟨_, by rw [if_neg h], by omega⟩
def totalUsed (who : Int) : List S25 → Int
  | [] => 0
  | s :: r => (if isSlotI s.f0 s.f1 s.f2 ∧ s.f0 = who then s.f2 else 0) + totalUsed who r
theorem totalUsed_bound (who : Int) (l : List S25) : 0 ≤ totalUsed who l ∧ totalUsed who l ≤ 1015 * l.length := by
  induction l with
  | nil => simp [totalUsed]
  | cons s r ih =>
    simp only [totalUsed, List.length_cons]
    split
    · rename_i h
      obtain ⟨⟨_, h1, h2⟩, _⟩ := h
      omega
    · omega
theorem totalUsed_impl_l0 (xs : List S25) (who : Int) (hn : xs.length ≤ 1048576) : ∀ (zs : List S25) (i : Nat) (c : Int), xs.drop i = zs → 0 ≤ c → c ≤ 1015 * i → Ev (fun k => impl_TotalUsed.l0 k who c xs xs.length (i : Int)) (c + totalUsed who zs) := by
  intro zs
  induction zs with
  | nil =>
    intro i c h _ _
    have := at_end h
    refine Ev.step (fun k => by rw [impl_TotalUsed.l0]) ?_
    exact ev_neg (by omega) (ev_eq (Ev.now _) (by simp [totalUsed]))
  | cons z zs ih =>
    intro i c h hc1 hc2
    obtain ⟨hi, hz, h2, hl⟩ := at_drop h
    have hr : rd_T25 xs (i : Int) = z := getD_at hz
    refine Ev.step (fun k => by rw [impl_TotalUsed.l0]) ?_
    refine ev_pos (by omega) (ev_pos (by omega) (ev_pos (by omega) ?_))
    rw [hr, wrap_id (x := (i : Int) + 1) (by omega) (by omega)]
    refine ev_bind0 (isSlot_impl _ _ _) (ev_ite (fun e => ?_) (fun e => ev_eq (ih (i + 1) c h2 (by omega) (by omega)) ?_))
    · simp only [decide_eq_true_eq] at e
      have e2 := e
      unfold isSlotI at e2
      refine ev_ite (fun e1 => ?_) (fun e1 => ev_eq (ih (i + 1) c h2 (by omega) (by omega)) ?_)
      · rw [wrap_id (by omega) (by omega)]
        refine ev_eq (ih (i + 1) (c + z.f2) h2 (by omega) (by omega)) ?_
        rw [totalUsed, if_pos ⟨e, e1⟩]
        omega
      · rw [totalUsed, if_neg (fun hh => e1 hh.2)]
        omega
    · simp only [decide_eq_true_eq] at e
      rw [totalUsed, if_neg (fun hh => e hh.1)]
      omega
theorem totalUsed_impl (xs : List S25) (who : Int) (hn : xs.length ≤ 1048576) : Ev (fun k => impl_TotalUsed.f k xs who) (totalUsed who xs) := by
  unfold impl_TotalUsed.f
  exact ev_eq (totalUsed_impl_l0 xs who hn xs 0 0 rfl (by omega) (by omega)) (by omega)
theorem totalUsed_spec_l0 (xs : List S25) (who : Int) (hn : xs.length ≤ 1048576) : ∀ (zs : List S25) (i : Nat) (c : Int), xs.drop i = zs → 0 ≤ c → c ≤ 1015 * i → Ev (fun k => spec_TotalUsed.l0 k xs who c (i : Int)) (c + totalUsed who zs) := by
  intro zs
  induction zs with
  | nil =>
    intro i c h _ _
    have := at_end h
    refine Ev.step (fun k => by rw [spec_TotalUsed.l0]) ?_
    exact ev_neg (by omega) (ev_eq (Ev.now _) (by simp [totalUsed]))
  | cons z zs ih =>
    intro i c h hc1 hc2
    obtain ⟨hi, hz, h2, hl⟩ := at_drop h
    have hr : rd_T25 xs (i : Int) = z := getD_at hz
    refine Ev.step (fun k => by rw [spec_TotalUsed.l0]) ?_
    refine ev_pos (by omega) (ev_pos (by omega) ?_)
    rw [hr, wrap_id (x := (i : Int) + 1) (by omega) (by omega)]
    refine ev_ite (fun e1 => ?_) (fun e1 => ev_eq (ih (i + 1) c h2 (by omega) (by omega)) ?_)
    · refine ev_bind0 ((isSlot_same _ _ _).symm.trans (isSlot_impl _ _ _)) (ev_ite (fun e => ?_) (fun e => ev_eq (ih (i + 1) c h2 (by omega) (by omega)) ?_))
      · simp only [decide_eq_true_eq] at e
        have e2 := e
        unfold isSlotI at e2
        rw [wrap_id (by omega) (by omega)]
        refine ev_eq (ih (i + 1) (c + z.f2) h2 (by omega) (by omega)) ?_
        rw [totalUsed, if_pos ⟨e, e1⟩]
        omega
      · simp only [decide_eq_true_eq] at e
        rw [totalUsed, if_neg (fun hh => e hh.1)]
        omega
    · rw [totalUsed, if_neg (fun hh => e1 hh.2)]
      omega
theorem totalUsed_spec (xs : List S25) (who : Int) (hn : xs.length ≤ 1048576) : Ev (fun k => spec_TotalUsed.f k xs who) (totalUsed who xs) := by
  unfold spec_TotalUsed.f
  exact ev_eq (totalUsed_spec_l0 xs who hn xs 0 0 rfl (by omega) (by omega)) (by omega)

theorem FnExactTotalUsed (l0 : List (S23)) (g0 : l0.length ≤ 9223372036854775807 ∧ ∀ y ∈ l0, ((Lit.int .i64 y.f0).wf = true) ∧ ((Lit.int .i64 y.f1).wf = true) ∧ ((Lit.int .i64 y.f2).wf = true)) (a1 : Int) (g1 : (Lit.int .i64 a1).wf = true) : ∃ k, laws_FnExactTotalUsed.f k l0 a1 = some true := by
  refine Ev.rounds (g := fun k => laws_FnExactTotalUsed.f k l0 a1) ?_
  unfold laws_FnExactTotalUsed.f
  obtain ⟨r, hr, hle⟩ := szSlotS_cases l0 g0.1
  refine ev_bind0 hr (ev_ite (fun _ => Ev.now _) (fun h => ?_))
  have hn := hle h
  refine Ev.bind (toSlotS_ev l0 (by omega)) (Ev.bind (totalUsed_spec _ _ (by simp; omega)) (Ev.bind (toSlotS_ev l0 (by omega)) (Ev.bind (totalUsed_impl _ _ (by simp; omega)) (ev_pos rfl ?_))))
  exact Ev.bind (toSlotS_ev l0 (by omega)) (Ev.bind (eqSlotS_same _ (by simp; omega)) (ev_pos rfl (Ev.now _)))
end Go.Proofs.Ytamjdlclmcbpcaa.Pure
