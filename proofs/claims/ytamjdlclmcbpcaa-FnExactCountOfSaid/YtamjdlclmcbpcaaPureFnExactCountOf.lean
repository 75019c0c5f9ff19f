/- The plain statement of the law FnExactCountOf, for all numbers and lists. -/
import Derived.Test.YtamjdlclmcbpcaaPFnExactCountOfx0
import Derived.Test.YtamjdlclmcbpcaaPFnExactCountOfx1
import Derived.Test.YtamjdlclmcbpcaaPFnExactCountOfx2
import Derived.Test.YtamjdlclmcbpcaaBase
set_option linter.unusedVariables false
set_option linter.unusedSimpArgs false
namespace Go.Proofs.Ytamjdlclmcbpcaa.Pure
open Go.RowKit Go.Proofs.Ytamjdlclmcbpcaa.PFnExactCountOf Go.Proofs.YtamjdlclmcbpcaaW.PrintWords Go.Proofs.YtamjdlclmcbpcaaW.PrintLast Go.Proofs.YtamjdlclmcbpcaaW.PrintMore Go.Proofs.Ytamjdlclmcbpcaa.Base
theorem toIntS_l0 (xs : List Int) (hn : xs.length ≤ 35184372088832) : ∀ (zs : List Int) (i : Nat) (ys : List Int), xs.drop i = zs → ys.length = xs.length → ys.take i = xs.take i → Ev (fun k => laws_toIntS.l0 k xs ys (i : Int)) xs := by
  intro zs
  induction zs with
  | nil =>
    intro i ys h hl ht
    have := at_end h
    refine Ev.step (fun k => by rw [laws_toIntS.l0]) (ev_neg (by omega) ?_)
    rw [List.take_of_length_le (by omega), List.take_of_length_le (by omega)] at ht
    rw [ht]
    exact Ev.now _
  | cons z zs ih =>
    intro i ys h hl ht
    obtain ⟨hi, hz, h', _⟩ := at_drop h
    refine Ev.step (fun k => by rw [laws_toIntS.l0]) (ev_pos (by omega) (ev_pos (by omega) (ev_pos (by omega) ?_)))
    rw [wrap_id (by omega) (by omega), Int.toNat_natCast, rd_get hz]
    exact ih (i + 1) _ h' (by simp [hl]) (by rw [take_set_at (by omega), take_at hz, ht])
theorem toIntS_ev (xs : List Int) (hn : xs.length ≤ 35184372088832) : Ev (fun k => laws_toIntS.f k xs) xs := by
  unfold laws_toIntS.f
  exact ev_pos (by omega) (ev_pos (by omega) (toIntS_l0 xs hn xs 0 _ rfl (by simp) (by simp)))
theorem eqIntS_l0 (xs ys : List Int) (hl : xs.length = ys.length) (hn : xs.length ≤ 9223372036854775807) : ∀ (zs us : List Int) (i : Nat), xs.drop i = zs → ys.drop i = us → Ev (fun k => laws_eqIntS.l0 k xs ys (i : Int)) (decide (zs = us)) := by
  intro zs
  induction zs with
  | nil =>
    intro us i h hu
    have := at_end h
    refine Ev.step (fun k => by rw [laws_eqIntS.l0]) (ev_neg (by omega) ?_)
    rw [List.drop_of_length_le (by omega)] at hu
    subst hu
    exact ev_eq (Ev.now _) (by simp)
  | cons z zs ih =>
    intro us i h hu
    obtain ⟨hi, hz, h', _⟩ := at_drop h
    cases us with
    | nil => have := at_end hu; omega
    | cons u us =>
      obtain ⟨_, hzu, hu', _⟩ := at_drop hu
      refine Ev.step (fun k => by rw [laws_eqIntS.l0]) (ev_pos (by omega) (ev_pos (by omega) (ev_pos (by omega) ?_)))
      rw [wrap_id (by omega) (by omega), rd_get hz, rd_get hzu]
      refine ev_ite (fun e => ev_eq (ih us (i + 1) h' hu') (by simp [e])) (fun e => ev_eq (Ev.now _) (by simp [e]))
theorem eqIntS_ev (xs ys : List Int) (hn : xs.length ≤ 9223372036854775807) : Ev (fun k => laws_eqIntS.f k xs ys) (decide (xs = ys)) := by
  unfold laws_eqIntS.f
  refine ev_ite (fun e => eqIntS_l0 xs ys (by omega) hn xs ys 0 rfl rfl) (fun e => ev_eq (Ev.now _) ?_)
  have : xs ≠ ys := by rintro rfl; exact e rfl
  simp [this]
theorem eqIntS_same (xs : List Int) (hn : xs.length ≤ 9223372036854775807) : Ev (fun k => laws_eqIntS.f k xs xs) true := ev_eq (eqIntS_ev xs xs hn) (by simp)
theorem l4Has_l0 (xs : List Int) (x : Int) (hn : xs.length ≤ 9223372036854775807) : ∀ (zs : List Int) (i : Nat), xs.drop i = zs → Ev (fun k => spec_l4Has.l0 k xs x (i : Int)) (decide (x ∈ zs)) := by
  intro zs
  induction zs with
  | nil =>
    intro i h
    have := at_end h
    exact Ev.step (fun k => by rw [spec_l4Has.l0]) (ev_neg (by omega) (ev_eq (Ev.now _) (by simp)))
  | cons z zs ih =>
    intro i h
    obtain ⟨hi, hz, h', _⟩ := at_drop h
    refine Ev.step (fun k => by rw [spec_l4Has.l0]) (ev_pos (by omega) (ev_pos (by omega) ?_))
    rw [wrap_id (by omega) (by omega), rd_get hz]
    exact ev_ite (fun e => ev_eq (Ev.now _) (by simp [e])) (fun e => ev_eq (ih (i + 1) h') (by simp [Ne.symm e]))
theorem l4Has_ev (xs : List Int) (x : Int) (hn : xs.length ≤ 9223372036854775807) : Ev (fun k => spec_l4Has.f k xs x) (decide (x ∈ xs)) := by
  unfold spec_l4Has.f
  exact l4Has_l0 xs x hn xs 0 rfl
theorem indexInt_l0 (xs : List Int) (x : Int) (hn : xs.length ≤ 9223372036854775807) : ∀ (zs : List Int) (i : Nat), xs.drop i = zs → ∃ r : Int, Ev (fun k => slices_Index_int_int.l0 k xs x xs.length (i : Int)) r ∧ (0 ≤ r ↔ x ∈ zs) := by
  intro zs
  induction zs with
  | nil =>
    intro i h
    have := at_end h
    exact ⟨-1, Ev.step (fun k => by rw [slices_Index_int_int.l0]) (ev_neg (by omega) (Ev.now _)), by simp⟩
  | cons z zs ih =>
    intro i h
    obtain ⟨hi, hz, h', _⟩ := at_drop h
    by_cases e : x = z
    · refine ⟨i, Ev.step (fun k => by rw [slices_Index_int_int.l0]) (ev_pos (by omega) (ev_pos (by omega) (ev_pos (by omega) ?_))), by simp [e]⟩
      rw [rd_get hz]
      exact ev_pos e (Ev.now _)
    · obtain ⟨r, hr, hm⟩ := ih (i + 1) h'
      refine ⟨r, Ev.step (fun k => by rw [slices_Index_int_int.l0]) (ev_pos (by omega) (ev_pos (by omega) (ev_pos (by omega) ?_))), by simp [e, hm]⟩
      rw [rd_get hz, wrap_id (by omega) (by omega)]
      exact ev_neg e hr
theorem containsInt_ev (xs : List Int) (x : Int) (hn : xs.length ≤ 9223372036854775807) : Ev (fun k => slices_Contains_int_int.f k xs x) (decide (x ∈ xs)) := by
  unfold slices_Contains_int_int.f slices_Index_int_int.f
  obtain ⟨r, hr, hm⟩ := indexInt_l0 xs x hn xs 0 rfl
  exact Ev.bind hr (ev_eq (Ev.now _) (decide_eq_decide.2 hm))
def countOf (side : List Int) (xs : List Int) : Nat := xs.countP fun x => decide (x ∈ side)
theorem countOf_spec_l0 (xs side : List Int) (hn : xs.length ≤ 35184372088832) (hs : side.length ≤ 35184372088832) : ∀ (zs : List Int) (i c : Nat), xs.drop i = zs → c + zs.length ≤ 35184372088832 → Ev (fun k => spec_CountOf.l0 k xs side (c : Int) (i : Int)) (c + countOf side zs : Nat) := by
  intro zs
  induction zs with
  | nil =>
    intro i c h _
    have := at_end h
    exact Ev.step (fun k => by rw [spec_CountOf.l0]) (ev_neg (by omega) (ev_eq (Ev.now _) (by simp [countOf])))
  | cons z zs ih =>
    intro i c h hc
    obtain ⟨hi, hz, h', hl⟩ := at_drop h
    rw [List.length_cons] at hc
    refine Ev.step (fun k => by rw [spec_CountOf.l0]) (ev_pos (by omega) (ev_pos (by omega) ?_))
    rw [wrap_id (x := (i : Int) + 1) (by omega) (by omega), wrap_id (by omega) (by omega), rd_get hz]
    refine Ev.bind (l4Has_ev side z (by omega)) ?_
    refine ev_ite (fun e => ev_eq (ih (i + 1) (c + 1) h' (by omega)) ?_) (fun e => ev_eq (ih (i + 1) c h' (by omega)) ?_)
    · simp only [decide_eq_true_eq] at e
      simp [countOf, e]
      omega
    · simp only [decide_eq_true_eq] at e
      simp [countOf, e]
theorem countOf_impl_l0 (xs side : List Int) (hn : xs.length ≤ 35184372088832) (hs : side.length ≤ 35184372088832) : ∀ (zs : List Int) (i c : Nat), xs.drop i = zs → c + zs.length ≤ 35184372088832 → Ev (fun k => impl_CountOf.l0 k side (c : Int) xs xs.length (i : Int)) (c + countOf side zs : Nat) := by
  intro zs
  induction zs with
  | nil =>
    intro i c h _
    have := at_end h
    exact Ev.step (fun k => by rw [impl_CountOf.l0]) (ev_neg (by omega) (ev_eq (Ev.now _) (by simp [countOf])))
  | cons z zs ih =>
    intro i c h hc
    obtain ⟨hi, hz, h', hl⟩ := at_drop h
    rw [List.length_cons] at hc
    refine Ev.step (fun k => by rw [impl_CountOf.l0]) (ev_pos (by omega) (ev_pos (by omega) (ev_pos (by omega) ?_)))
    rw [wrap_id (x := (i : Int) + 1) (by omega) (by omega), wrap_id (by omega) (by omega), rd_get hz]
    refine Ev.bind (containsInt_ev side z (by omega)) ?_
    refine ev_ite (fun e => ev_eq (ih (i + 1) (c + 1) h' (by omega)) ?_) (fun e => ev_eq (ih (i + 1) c h' (by omega)) ?_)
    · simp only [decide_eq_true_eq] at e
      simp [countOf, e]
      omega
    · simp only [decide_eq_true_eq] at e
      simp [countOf, e]
theorem countOf_spec (xs side : List Int) (hn : xs.length ≤ 1048576) (hs : side.length ≤ 1048576) : Ev (fun k => spec_CountOf.f k xs side) (countOf side xs : Int) := by
  unfold spec_CountOf.f
  exact ev_eq (countOf_spec_l0 xs side (by omega) (by omega) xs 0 0 rfl (by omega)) (by simp)
theorem countOf_impl (xs side : List Int) (hn : xs.length ≤ 1048576) (hs : side.length ≤ 1048576) : Ev (fun k => impl_CountOf.f k xs side) (countOf side xs : Int) := by
  unfold impl_CountOf.f
  exact ev_eq (countOf_impl_l0 xs side (by omega) (by omega) xs 0 0 rfl (by omega)) (by simp)
theorem FnExactCountOf (l0 : List (Int)) (g0 : l0.length ≤ 9223372036854775807 ∧ ∀ y ∈ l0, (Lit.int .i64 y).wf = true) (l1 : List (Int)) (g1 : l1.length ≤ 9223372036854775807 ∧ ∀ y ∈ l1, (Lit.int .i64 y).wf = true) : ∃ k, laws_FnExactCountOf.f k l0 l1 = some true := by
  refine Ev.rounds (g := fun k => laws_FnExactCountOf.f k l0 l1) ?_
  unfold laws_FnExactCountOf.f
  refine ev_ite (fun _ => Ev.now _) (fun hn => ev_ite (fun _ => Ev.now _) (fun hs => ?_))
  refine Ev.bind (toIntS_ev l0 (by omega)) (Ev.bind (toIntS_ev l1 (by omega)) (Ev.bind (countOf_spec _ _ (by omega) (by omega)) ?_))
  refine Ev.bind (toIntS_ev l0 (by omega)) (Ev.bind (toIntS_ev l1 (by omega)) (Ev.bind (countOf_impl _ _ (by omega) (by omega)) (ev_pos rfl ?_)))
  refine Ev.bind (toIntS_ev l0 (by omega)) (Ev.bind (eqIntS_same _ (by omega)) (ev_pos rfl ?_))
  exact Ev.bind (toIntS_ev l1 (by omega)) (Ev.bind (eqIntS_same _ (by omega)) (ev_pos rfl (Ev.now _)))
end Go.Proofs.Ytamjdlclmcbpcaa.Pure
