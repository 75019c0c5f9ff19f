/- The plain statement of the law FnExactWon, for all numbers and lists. -/
import Derived.Test.YtamjdlclmcbpcaaPFnExactWonx0
import Derived.Test.YtamjdlclmcbpcaaPFnExactWonx1
import Derived.Test.YtamjdlclmcbpcaaPFnExactWonx2
import Derived.Test.YtamjdlclmcbpcaaBase
set_option linter.unusedVariables false
set_option linter.unusedSimpArgs false
namespace Go.Proofs.Ytamjdlclmcbpcaa.Pure
open Go.RowKit Go.Proofs.Ytamjdlclmcbpcaa.PFnExactWon Go.Proofs.YtamjdlclmcbpcaaW.PrintWords Go.Proofs.YtamjdlclmcbpcaaW.PrintLast Go.Proofs.YtamjdlclmcbpcaaW.PrintMore Go.Proofs.Ytamjdlclmcbpcaa.Base
def toPoint (x : S67) : S65 := ⟨x.f0, x.f1, x.f2⟩
theorem toPointS_l0 (xs : List S67) (hn : xs.length ≤ 11728124029610) : ∀ (zs : List S67) (i : Nat) (ys : List S65), xs.drop i = zs → ys.length = xs.length → ys.take i = (xs.map toPoint).take i → Ev (fun k => laws_toPointS.l0 k xs ys (i : Int)) (xs.map toPoint) := by
  intro zs
  induction zs with
  | nil =>
    intro i ys h hl ht
    have := at_end h
    refine Ev.step (fun k => by rw [laws_toPointS.l0]) ?_
    refine ev_neg (by omega) ?_
    rw [List.take_of_length_le (by omega), List.take_of_length_le (by simp; omega)] at ht
    rw [ht]
    exact Ev.now _
  | cons z zs ih =>
    intro i ys h hl ht
    obtain ⟨hi, hz, h2, _⟩ := at_drop h
    have hr : rd_T67 xs (i : Int) = z := getD_at hz
    refine Ev.step (fun k => by rw [laws_toPointS.l0]) ?_
    refine ev_pos (by omega) (ev_pos (by omega) (ev_bind0 (a := (z.f0, z.f1, z.f2)) (by rw [hr]; rfl) (ev_pos (by omega) ?_)))
    rw [wrap_id (by omega) (by omega), Int.toNat_natCast]
    refine ih (i + 1) _ h2 (by simp [hl]) ?_
    rw [take_set_at (by omega), take_at (z := toPoint z) (by simp [hz]), ht]
    rfl
theorem toPointS_ev (xs : List S67) (hn : xs.length ≤ 11728124029610) : Ev (fun k => laws_toPointS.f k xs) (xs.map toPoint) := by
  unfold laws_toPointS.f
  exact ev_pos (by omega) (ev_pos (by omega) (toPointS_l0 xs hn xs 0 _ rfl (by simp) (by simp)))
theorem eqPoint_eq (a b : S65) : laws_eqPoint.f a.f0 a.f1 a.f2 b.f0 b.f1 b.f2 = some (decide (a.f0 = b.f0 ∧ a.f1 = b.f1 ∧ a.f2 = b.f2)) := by
  unfold laws_eqPoint.f
  by_cases h0 : a.f0 = b.f0
  · by_cases h1 : a.f1 = b.f1
    · by_cases h2 : a.f2 = b.f2 <;> simp [h0, h1, h2]
    · simp [h1]
  · simp [h0]
theorem Point_ext (a b : S65) : (a.f0 = b.f0 ∧ a.f1 = b.f1 ∧ a.f2 = b.f2) ↔ a = b := by
  cases a; cases b; simp
theorem eqPointS_l0 (xs : List S65) (ys : List S65) (hl : xs.length = ys.length) (hn : xs.length ≤ 9223372036854775807) : ∀ (zs us : List S65) (i : Nat), xs.drop i = zs → ys.drop i = us → ∃ r : Bool, Ev (fun k => laws_eqPointS.l0 k xs ys (i : Int)) r ∧ (r = true ↔ zs = us) := by
  intro zs
  induction zs with
  | nil =>
    intro us i h hu
    have := at_end h
    rw [List.drop_of_length_le (by omega)] at hu
    subst hu
    refine ⟨true, Ev.step (fun k => by rw [laws_eqPointS.l0]) ?_, by simp⟩
    exact ev_neg (by omega) (Ev.now _)
  | cons z zs ih =>
    intro us i h hu
    obtain ⟨hi, hz, h2, _⟩ := at_drop h
    cases us with
    | nil => have := at_end hu; omega
    | cons u us =>
      obtain ⟨_, hzu, hu2, _⟩ := at_drop hu
      have hr : rd_T65 xs (i : Int) = z := getD_at hz
      have hr2 : rd_T65 ys (i : Int) = u := getD_at hzu
      obtain ⟨r, hev, hiff⟩ := ih us (i + 1) h2 hu2
      by_cases e : z.f0 = u.f0 ∧ z.f1 = u.f1 ∧ z.f2 = u.f2
      · refine ⟨r, Ev.step (fun k => by rw [laws_eqPointS.l0]) ?_, ?_⟩
        · refine ev_pos (by omega) (ev_pos (by omega) (ev_pos (by omega) ?_))
          rw [wrap_id (by omega) (by omega), hr, hr2]
          exact ev_bind0 (eqPoint_eq z u) (ev_pos (by simpa using e) hev)
        · rw [hiff, (Point_ext z u).1 e]
          simp
      · refine ⟨false, Ev.step (fun k => by rw [laws_eqPointS.l0]) ?_, ?_⟩
        · refine ev_pos (by omega) (ev_pos (by omega) (ev_pos (by omega) ?_))
          rw [wrap_id (by omega) (by omega), hr, hr2]
          exact ev_bind0 (eqPoint_eq z u) (ev_neg (by simpa using e) (Ev.now _))
        · have : z ≠ u := fun he => e ((Point_ext z u).2 he)
          simp [this]
theorem eqPointS_same (xs : List S65) (hn : xs.length ≤ 9223372036854775807) : Ev (fun k => laws_eqPointS.f k xs xs) true := by
  unfold laws_eqPointS.f
  obtain ⟨r, hev, hiff⟩ := eqPointS_l0 xs xs rfl hn xs xs 0 rfl rfl
  exact ev_pos rfl (ev_eq hev (hiff.2 rfl))
theorem szPointS_cases (xs : List S67) (hn : xs.length ≤ 9223372036854775807) : ∃ r : Int, laws_szPointS.f xs 1048576 = some r ∧ (¬ r < 0 → xs.length ≤ 1048576) := by
  unfold laws_szPointS.f
  rw [wrap_id (by omega) (by omega)]
  by_cases h : (1048576 : Int) - xs.length < 0
  · exact ⟨-1, by rw [if_pos h], by omega⟩
  · exact ⟨_, by rw [if_neg h], by omega⟩
def wonOf (side : Int) (p : S65) : Int := if p.f1 = side then (if p.f2 = 1 ∨ p.f2 = 3 then 1 else if p.f2 = 4 then -1 else 0) else 0
def wonSum (side : Int) : List S65 → Int
  | [] => 0
  | p :: r => wonOf side p + wonSum side r
theorem wonOf_bound (side : Int) (p : S65) : -1 ≤ wonOf side p ∧ wonOf side p ≤ 1 := by
  unfold wonOf
  split
  · split
    · omega
    · split <;> omega
  · omega
theorem wonSum_bound (side : Int) (l : List S65) : -(l.length : Int) ≤ wonSum side l ∧ wonSum side l ≤ l.length := by
  induction l with
  | nil => simp [wonSum]
  | cons p r ih =>
    have := wonOf_bound side p
    simp only [wonSum, List.length_cons]
    omega
theorem won_spec_l0 (xs : List S65) (side : Int) (hn : xs.length ≤ 9223372036854775800) : ∀ (zs : List S65) (i : Nat) (c : Int), xs.drop i = zs → -(i : Int) ≤ c → c ≤ i → Ev (fun k => spec_Won.l0 k xs side c (i : Int)) (c + wonSum side zs) := by
  intro zs
  induction zs with
  | nil =>
    intro i c h _ _
    have := at_end h
    refine Ev.step (fun k => by rw [spec_Won.l0]) ?_
    exact ev_neg (by omega) (ev_eq (Ev.now _) (by simp [wonSum]))
  | cons z zs ih =>
    intro i c h hc1 hc2
    obtain ⟨hi, hz, h2, hl⟩ := at_drop h
    have hr : rd_T65 xs (i : Int) = z := getD_at hz
    refine Ev.step (fun k => by rw [spec_Won.l0]) ?_
    refine ev_pos (by omega) (ev_pos (by omega) ?_)
    rw [hr, wrap_id (by omega) (by omega)]
    by_cases e1 : z.f1 = side
    · refine ev_pos e1 ?_
      by_cases ea : z.f2 = 1
      · refine ev_pos ea (Ev.step (fun k => by rw [spec_Won.j1]) (ev_pos (by simp [ea]) ?_))
        rw [wrap_id (by omega) (by omega), wrap_id (by omega) (by omega)]
        refine ev_eq (ih (i + 1) (c + 1) h2 (by omega) (by omega)) ?_
        simp only [wonSum, wonOf, e1, ea, if_true, true_or]
        omega
      · refine ev_neg ea (Ev.step (fun k => by rw [spec_Won.j1]) ?_)
        by_cases eb : z.f2 = 3
        · refine ev_pos (by simp [eb]) ?_
          rw [wrap_id (by omega) (by omega), wrap_id (by omega) (by omega)]
          refine ev_eq (ih (i + 1) (c + 1) h2 (by omega) (by omega)) ?_
          simp only [wonSum, wonOf, e1, eb, if_true, or_true]
          omega
        · refine ev_neg (by simp [eb]) ?_
          by_cases ec : z.f2 = 4
          · refine ev_pos ec ?_
            rw [wrap_id (by omega) (by omega), wrap_id (by omega) (by omega)]
            refine ev_eq (ih (i + 1) (c - 1) h2 (by omega) (by omega)) ?_
            simp [wonSum, wonOf, e1, ec]
            omega
          · refine ev_neg ec ?_
            rw [wrap_id (by omega) (by omega)]
            refine ev_eq (ih (i + 1) c h2 (by omega) (by omega)) ?_
            simp [wonSum, wonOf, ea, eb, ec]
    · refine ev_neg e1 (ev_eq (ih (i + 1) c h2 (by omega) (by omega)) ?_)
      simp [wonSum, wonOf, e1]
theorem won_spec (xs : List S65) (side : Int) (hn : xs.length ≤ 9223372036854775800) : Ev (fun k => spec_Won.f k xs side) (wonSum side xs) := by
  unfold spec_Won.f
  exact ev_eq (won_spec_l0 xs side hn xs 0 0 rfl (by omega) (by omega)) (by omega)
def wonOfI (side : Int) (p : S65) : Int := if p.f1 = side then (if p.f2 = 1 ∨ p.f2 = 3 then 1 else if p.f2 = 4 then -1 else 0) else 0
def wonSumI (side : Int) : List S65 → Int
  | [] => 0
  | p :: r => wonOfI side p + wonSumI side r
theorem wonOfI_bound (side : Int) (p : S65) : -1 ≤ wonOfI side p ∧ wonOfI side p ≤ 1 := by
  unfold wonOfI
  split
  · split
    · omega
    · split <;> omega
  · omega
theorem wonSumI_bound (side : Int) (l : List S65) : -(l.length : Int) ≤ wonSumI side l ∧ wonSumI side l ≤ l.length := by
  induction l with
  | nil => simp [wonSumI]
  | cons p r ih =>
    have := wonOfI_bound side p
    simp only [wonSumI, List.length_cons]
    omega
theorem won_impl_l0 (xs : List S65) (side : Int) (hn : xs.length ≤ 9223372036854775800) : ∀ (zs : List S65) (i : Nat) (c : Int), xs.drop i = zs → -(i : Int) ≤ c → c ≤ i → Ev (fun k => impl_Won.l0 k side c xs xs.length (i : Int)) (c + wonSumI side zs) := by
  intro zs
  induction zs with
  | nil =>
    intro i c h _ _
    have := at_end h
    refine Ev.step (fun k => by rw [impl_Won.l0]) ?_
    exact ev_neg (by omega) (ev_eq (Ev.now _) (by simp [wonSumI]))
  | cons z zs ih =>
    intro i c h hc1 hc2
    obtain ⟨hi, hz, h2, hl⟩ := at_drop h
    have hr : rd_T65 xs (i : Int) = z := getD_at hz
    refine Ev.step (fun k => by rw [impl_Won.l0]) ?_
    refine ev_pos (by omega) (ev_pos (by omega) (ev_pos (by omega) ?_))
    rw [hr, wrap_id (by omega) (by omega)]
    by_cases e1 : z.f1 = side
    · refine ev_pos e1 ?_
      by_cases ea : z.f2 = 1
      · refine ev_pos ea (Ev.step (fun k => by rw [impl_Won.j1]) (ev_pos (by simp [ea]) ?_))
        rw [wrap_id (by omega) (by omega), wrap_id (by omega) (by omega)]
        refine ev_eq (ih (i + 1) (c + 1) h2 (by omega) (by omega)) ?_
        simp only [wonSumI, wonOfI, e1, ea, if_true, true_or]
        omega
      · refine ev_neg ea (Ev.step (fun k => by rw [impl_Won.j1]) ?_)
        by_cases eb : z.f2 = 3
        · refine ev_pos (by simp [eb]) ?_
          rw [wrap_id (by omega) (by omega), wrap_id (by omega) (by omega)]
          refine ev_eq (ih (i + 1) (c + 1) h2 (by omega) (by omega)) ?_
          simp only [wonSumI, wonOfI, e1, eb, if_true, or_true]
          omega
        · refine ev_neg (by simp [eb]) ?_
          by_cases ec : z.f2 = 4
          · refine ev_pos ec ?_
            rw [wrap_id (by omega) (by omega), wrap_id (by omega) (by omega)]
            refine ev_eq (ih (i + 1) (c - 1) h2 (by omega) (by omega)) ?_
            simp [wonSumI, wonOfI, e1, ec]
            omega
          · refine ev_neg ec ?_
            rw [wrap_id (by omega) (by omega)]
            refine ev_eq (ih (i + 1) c h2 (by omega) (by omega)) ?_
            simp [wonSumI, wonOfI, ea, eb, ec]
    · refine ev_neg e1 (ev_eq (ih (i + 1) c h2 (by omega) (by omega)) ?_)
      simp [wonSumI, wonOfI, e1]
theorem won_impl (xs : List S65) (side : Int) (hn : xs.length ≤ 9223372036854775800) : Ev (fun k => impl_Won.f k xs side) (wonSumI side xs) := by
  unfold impl_Won.f
  exact ev_eq (won_impl_l0 xs side hn xs 0 0 rfl (by omega) (by omega)) (by omega)
theorem won_same (side : Int) (l : List S65) : wonSumI side l = wonSum side l := by
  induction l with
  | nil => rfl
  | cons p r ih => simp only [wonSum, wonSumI, ih]; rfl

theorem FnExactWon (l0 : List (S67)) (g0 : l0.length ≤ 9223372036854775807 ∧ ∀ y ∈ l0, ((Lit.int .i64 y.f0).wf = true) ∧ ((Lit.int .i64 y.f1).wf = true) ∧ ((Lit.int .i64 y.f2).wf = true)) (a1 : Int) (g1 : (Lit.int .i64 a1).wf = true) : ∃ k, laws_FnExactWon.f k l0 a1 = some true := by
  refine Ev.rounds (g := fun k => laws_FnExactWon.f k l0 a1) ?_
  unfold laws_FnExactWon.f
  obtain ⟨r, hr, hle⟩ := szPointS_cases l0 g0.1
  refine ev_bind0 hr (ev_ite (fun _ => Ev.now _) (fun h => ?_))
  have hn := hle h
  refine Ev.bind (toPointS_ev l0 (by omega)) (Ev.bind (won_spec _ _ (by simp; omega)) (Ev.bind (toPointS_ev l0 (by omega)) (Ev.bind (won_impl _ _ (by simp; omega)) (ev_pos (won_same _ _) ?_))))
  exact Ev.bind (toPointS_ev l0 (by omega)) (Ev.bind (eqPointS_same _ (by simp; omega)) (ev_pos rfl (Ev.now _)))
end Go.Proofs.Ytamjdlclmcbpcaa.Pure
