/- The plain statement of the law FnExactNextAfter, for all numbers and lists. -/
import Derived.Test.YtamjdlclmcbpcaaPFnExactNextAfterx0
import Derived.Test.YtamjdlclmcbpcaaPFnExactNextAfterx1
import Derived.Test.YtamjdlclmcbpcaaBase
set_option linter.unusedVariables false
set_option linter.unusedSimpArgs false
namespace Go.Proofs.Ytamjdlclmcbpcaa.Pure
open Go.RowKit Go.Proofs.Ytamjdlclmcbpcaa.PFnExactNextAfter Go.Proofs.YtamjdlclmcbpcaaW.PrintWords Go.Proofs.YtamjdlclmcbpcaaW.PrintLast Go.Proofs.YtamjdlclmcbpcaaW.PrintMore Go.Proofs.Ytamjdlclmcbpcaa.Base
theorem toIntS_l0 (xs : List Int) (hn : xs.length ≤ 35184372088832) : ∀ (zs : List Int) (i : Nat) (ys : List Int), xs.drop i = zs → ys.length = xs.length → ys.take i = xs.take i → Ev (fun k => laws_toIntS.l0 k xs ys (i : Int)) xs := by
  intro zs
  induction zs with
  | nil =>
    intro i ys h hl ht
    have := at_end h
    refine Ev.step (fun k => by rw [laws_toIntS.l0]) (ev_neg (by omega) ?_)
    rw [List.take_of_length_le (by omega), List.take_of_length_le (by omega)] at ht
    rw [ht]
    exact Ev.now _
  | cons z zs ih =>
    intro i ys h hl ht
    obtain ⟨hi, hz, h', _⟩ := at_drop h
    refine Ev.step (fun k => by rw [laws_toIntS.l0]) (ev_pos (by omega) (ev_pos (by omega) (ev_pos (by omega) ?_)))
    rw [wrap_id (by omega) (by omega), Int.toNat_natCast, rd_get hz]
    exact ih (i + 1) _ h' (by simp [hl]) (by rw [take_set_at (by omega), take_at hz, ht])
theorem toIntS_ev (xs : List Int) (hn : xs.length ≤ 35184372088832) : Ev (fun k => laws_toIntS.f k xs) xs := by
  unfold laws_toIntS.f
  exact ev_pos (by omega) (ev_pos (by omega) (toIntS_l0 xs hn xs 0 _ rfl (by simp) (by simp)))
theorem eqIntS_l0 (xs ys : List Int) (hl : xs.length = ys.length) (hn : xs.length ≤ 9223372036854775807) : ∀ (zs us : List Int) (i : Nat), xs.drop i = zs → ys.drop i = us → Ev (fun k => laws_eqIntS.l0 k xs ys (i : Int)) (decide (zs = us)) := by
  intro zs
  induction zs with
  | nil =>
    intro us i h hu
    have := at_end h
    refine Ev.step (fun k => by rw [laws_eqIntS.l0]) (ev_neg (by omega) ?_)
    rw [List.drop_of_length_le (by omega)] at hu
    subst hu
    exact ev_eq (Ev.now _) (by simp)
  | cons z zs ih =>
    intro us i h hu
    obtain ⟨hi, hz, h', _⟩ := at_drop h
    cases us with
    | nil => have := at_end hu; omega
    | cons u us =>
      obtain ⟨_, hzu, hu', _⟩ := at_drop hu
      refine Ev.step (fun k => by rw [laws_eqIntS.l0]) (ev_pos (by omega) (ev_pos (by omega) (ev_pos (by omega) ?_)))
      rw [wrap_id (by omega) (by omega), rd_get hz, rd_get hzu]
      refine ev_ite (fun e => ev_eq (ih us (i + 1) h' hu') (by simp [e])) (fun e => ev_eq (Ev.now _) (by simp [e]))
theorem eqIntS_ev (xs ys : List Int) (hn : xs.length ≤ 9223372036854775807) : Ev (fun k => laws_eqIntS.f k xs ys) (decide (xs = ys)) := by
  unfold laws_eqIntS.f
  refine ev_ite (fun e => eqIntS_l0 xs ys (by omega) hn xs ys 0 rfl rfl) (fun e => ev_eq (Ev.now _) ?_)
  have : xs ≠ ys := by rintro rfl; exact e rfl
  simp [this]
theorem eqIntS_same (xs : List Int) (hn : xs.length ≤ 9223372036854775807) : Ev (fun k => laws_eqIntS.f k xs xs) true := ev_eq (eqIntS_ev xs xs hn) (by simp)
def nextAfter (who : Int) : List Int → Int
  | x :: y :: r => if x = who then y else nextAfter who (y :: r)
  | _ => 0
theorem nextAfter_spec_l0 (xs : List Int) (who : Int) (hn : xs.length ≤ 35184372088832) : ∀ (zs : List Int) (i : Nat), xs.drop i = zs → i ≤ xs.length → Ev (fun k => spec_NextAfter.l0 k xs who (i : Int)) (nextAfter who zs) := by
  intro zs
  induction zs with
  | nil =>
    intro i h hi
    have := at_end h
    refine Ev.step (fun k => by rw [spec_NextAfter.l0]) ?_
    rw [wrap_id (by omega) (by omega)]
    exact ev_neg (by omega) (Ev.now _)
  | cons z zs ih =>
    intro i h hi0
    obtain ⟨hi, hz, h', hl⟩ := at_drop h
    refine Ev.step (fun k => by rw [spec_NextAfter.l0]) ?_
    rw [wrap_id (by omega) (by omega)]
    cases zs with
    | nil => exact ev_neg (by simp at hl; omega) (Ev.now _)
    | cons y r =>
      obtain ⟨hi2, hy, _, _⟩ := at_drop h'
      refine ev_pos (by omega) (ev_pos (by omega) (ev_pos (by omega) ?_))
      rw [rd_get hz]
      refine ev_ite (fun e => ev_pos (by omega) (ev_eq (Ev.now _) ?_)) (fun e => ev_eq (ih (i + 1) h' (by omega)) ?_)
      · rw [show (i : Int) + 1 = ((i + 1 : Nat) : Int) by omega, rd_get hy]
        simp [nextAfter, e]
      · simp [nextAfter, e]
theorem nextAfter_impl_l0 (xs : List Int) (who : Int) (hn : xs.length ≤ 35184372088832) (n : Int) (hne : n = xs.length - 1) : ∀ (zs : List Int) (i : Nat), xs.drop i = zs → Ev (fun k => impl_NextAfter.l0 k xs who n (i : Int)) (nextAfter who zs) := by
  intro zs
  induction zs with
  | nil =>
    intro i h
    have := at_end h
    refine Ev.step (fun k => by rw [impl_NextAfter.l0]) ?_
    exact ev_neg (by omega) (Ev.now _)
  | cons z zs ih =>
    intro i h
    obtain ⟨hi, hz, h', hl⟩ := at_drop h
    refine Ev.step (fun k => by rw [impl_NextAfter.l0]) ?_
    rw [wrap_id (by omega) (by omega)]
    cases zs with
    | nil => exact ev_neg (by simp at hl; omega) (Ev.now _)
    | cons y r =>
      obtain ⟨hi2, hy, _, _⟩ := at_drop h'
      refine ev_pos (by omega) (ev_pos (by omega) (ev_pos (by omega) ?_))
      rw [rd_get hz]
      refine ev_ite (fun e => ev_pos (by omega) (ev_pos (by omega) (ev_eq (Ev.now _) ?_))) (fun e => ev_eq (ih (i + 1) h') ?_)
      · rw [show (i : Int) + 1 = ((i + 1 : Nat) : Int) by omega, rd_get hy]
        simp [nextAfter, e]
      · simp [nextAfter, e]
theorem nextAfter_spec (xs : List Int) (who : Int) (hn : xs.length ≤ 35184372088832) : Ev (fun k => spec_NextAfter.f k xs who) (nextAfter who xs) := by
  unfold spec_NextAfter.f
  exact nextAfter_spec_l0 xs who hn xs 0 rfl (by omega)
theorem nextAfter_impl (xs : List Int) (who : Int) (hn : xs.length ≤ 35184372088832) : Ev (fun k => impl_NextAfter.f k xs who) (nextAfter who xs) := by
  unfold impl_NextAfter.f
  rw [wrap_id (by omega) (by omega)]
  exact nextAfter_impl_l0 xs who hn _ rfl xs 0 rfl
theorem FnExactNextAfter (l0 : List (Int)) (g0 : l0.length ≤ 9223372036854775807 ∧ ∀ y ∈ l0, (Lit.int .i64 y).wf = true) (a1 : Int) (g1 : (Lit.int .i64 a1).wf = true) : ∃ k, laws_FnExactNextAfter.f k l0 a1 = some true := by
  refine Ev.rounds (g := fun k => laws_FnExactNextAfter.f k l0 a1) ?_
  unfold laws_FnExactNextAfter.f
  refine ev_ite (fun _ => Ev.now _) (fun hn => ?_)
  refine Ev.bind (toIntS_ev l0 (by omega)) (Ev.bind (nextAfter_spec _ _ (by omega)) (Ev.bind (toIntS_ev l0 (by omega)) (Ev.bind (nextAfter_impl _ _ (by omega)) (ev_pos rfl ?_))))
  exact Ev.bind (toIntS_ev l0 (by omega)) (Ev.bind (eqIntS_same _ (by omega)) (ev_pos rfl (Ev.now _)))
end Go.Proofs.Ytamjdlclmcbpcaa.Pure
