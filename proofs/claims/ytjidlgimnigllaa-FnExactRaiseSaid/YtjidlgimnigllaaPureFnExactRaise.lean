/- The plain statement of the law FnExactRaise, for all numbers and lists. -/
import Derived.Test.YtjidlgimnigllaaPFnExactRaisex0
import Derived.Test.YtjidlgimnigllaaPFnExactRaisex1
import Derived.Test.YtjidlgimnigllaaPFnExactRaisex2
import Derived.Test.YtjidlgimnigllaaPFnExactRaisex3
import Derived.Test.YtjidlgimnigllaaPFnExactRaisex4
import Derived.Test.YtjidlgimnigllaaPFnExactRaisex5
import Derived.Test.YtjidlgimnigllaaPFnExactRaisex6
import Derived.Test.YtjidlgimnigllaaPFnExactRaisex7
import Derived.Test.YtjidlgimnigllaaPFnExactRaisex8
import Derived.Test.YtjidlgimnigllaaBase
set_option linter.unusedVariables false
set_option linter.unusedSimpArgs false
namespace Go.Proofs.Ytjidlgimnigllaa.Pure
open Go.RowKit Go.Proofs.Ytjidlgimnigllaa.PFnExactRaise Go.Proofs.YtjidlgimnigllaaW.PrintWords Go.Proofs.YtjidlgimnigllaaW.PrintLast Go.Proofs.YtjidlgimnigllaaW.PrintMore Go.Proofs.Ytjidlgimnigllaa.Base
theorem l1In_eq (x a b : Int) : spec_l1In.f x a b = some (decide (a ≤ x ∧ x ≤ b)) := by
  unfold spec_l1In.f
  by_cases h : a ≤ x <;> simp [h]
theorem inRange_eq (x a b : Int) : impl_InRange.f x a b = some (decide (a ≤ x ∧ x ≤ b)) := by
  unfold impl_InRange.f
  by_cases h : a ≤ x <;> simp [h]

def toPoint (x : S53) : S48 := ⟨x.f0, x.f1, x.f2⟩
theorem toPointS_l0 (xs : List S53) (hn : xs.length ≤ 11728124029610) : ∀ (zs : List S53) (i : Nat) (ys : List S48), xs.drop i = zs → ys.length = xs.length → ys.take i = (xs.map toPoint).take i → Ev (fun k => laws_toPointS.l0 k xs ys (i : Int)) (xs.map toPoint) := by
  intro zs
  induction zs with
  | nil =>
    intro i ys h hl ht
    have := at_end h
    refine Ev.step (fun k => by rw [laws_toPointS.l0]) ?_
    refine ev_neg (by omega) ?_
    rw [List.take_of_length_le (by omega), List.take_of_length_le (by first | (simp; done) | (simp; omega))] at ht
    rw [ht]
    exact Ev.now _
  | cons z zs ih =>
    intro i ys h hl ht
    obtain ⟨hi, hz, h2, _⟩ := at_drop h
    have hr : rd_T53 xs (i : Int) = z := getD_at hz
    refine Ev.step (fun k => by rw [laws_toPointS.l0]) ?_
    refine ev_pos (by omega) (ev_pos (by omega) (ev_bind0 (a := (z.f0, z.f1, z.f2)) (by rw [hr]; rfl) (ev_pos (by omega) ?_)))
    rw [wrap_id (by omega) (by omega), Int.toNat_natCast]
    refine ih (i + 1) _ h2 (by simp [hl]) ?_
    rw [take_set_at (by omega), take_at (z := toPoint z) (by simp [hz]), ht]
    rfl
theorem toPointS_ev (xs : List S53) (hn : xs.length ≤ 11728124029610) : Ev (fun k => laws_toPointS.f k xs) (xs.map toPoint) := by
  unfold laws_toPointS.f
  exact ev_pos (by omega) (ev_pos (by omega) (toPointS_l0 xs hn xs 0 _ rfl (by simp) (by simp)))
theorem eqPoint_eq (a b : S48) : laws_eqPoint.f a.f0 a.f1 a.f2 b.f0 b.f1 b.f2 = some (decide (a.f0 = b.f0 ∧ a.f1 = b.f1 ∧ a.f2 = b.f2)) := by
  unfold laws_eqPoint.f
  by_cases h0 : a.f0 = b.f0
  · by_cases h1 : a.f1 = b.f1
    · by_cases h2 : a.f2 = b.f2 <;> simp [h0, h1, h2]
    · simp [h1]
  · simp [h0]
theorem Point_ext (a b : S48) : (a.f0 = b.f0 ∧ a.f1 = b.f1 ∧ a.f2 = b.f2) ↔ a = b := by
  cases a; cases b; simp
theorem eqPointS_l0 (xs : List S48) (ys : List S48) (hl : xs.length = ys.length) (hn : xs.length ≤ 9223372036854775807) : ∀ (zs us : List S48) (i : Nat), xs.drop i = zs → ys.drop i = us → ∃ r : Bool, Ev (fun k => laws_eqPointS.l0 k xs ys (i : Int)) r ∧ (r = true ↔ zs = us) := by
  intro zs
  induction zs with
  | nil =>
    intro us i h hu
    have := at_end h
    rw [List.drop_of_length_le (by omega)] at hu
    subst hu
    refine ⟨true, Ev.step (fun k => by rw [laws_eqPointS.l0]) ?_, by simp⟩
    exact ev_neg (by omega) (Ev.now _)
  | cons z zs ih =>
    intro us i h hu
    obtain ⟨hi, hz, h2, _⟩ := at_drop h
    cases us with
    | nil => have := at_end hu; omega
    | cons u us =>
      obtain ⟨_, hzu, hu2, _⟩ := at_drop hu
      have hr : rd_T48 xs (i : Int) = z := getD_at hz
      have hr2 : rd_T48 ys (i : Int) = u := getD_at hzu
      obtain ⟨r, hev, hiff⟩ := ih us (i + 1) h2 hu2
      by_cases e : z.f0 = u.f0 ∧ z.f1 = u.f1 ∧ z.f2 = u.f2
      · refine ⟨r, Ev.step (fun k => by rw [laws_eqPointS.l0]) ?_, ?_⟩
        · refine ev_pos (by omega) (ev_pos (by omega) (ev_pos (by omega) ?_))
          rw [wrap_id (by omega) (by omega), hr, hr2]
          exact ev_bind0 (eqPoint_eq z u) (ev_pos (by simpa using e) hev)
        · rw [hiff, (Point_ext z u).1 e]
          simp
      · refine ⟨false, Ev.step (fun k => by rw [laws_eqPointS.l0]) ?_, ?_⟩
        · refine ev_pos (by omega) (ev_pos (by omega) (ev_pos (by omega) ?_))
          rw [wrap_id (by omega) (by omega), hr, hr2]
          exact ev_bind0 (eqPoint_eq z u) (ev_neg (by simpa using e) (Ev.now _))
        · have : z ≠ u := fun he => e ((Point_ext z u).2 he)
          simp [this]
theorem eqPointS_same (xs : List S48) (hn : xs.length ≤ 9223372036854775807) : Ev (fun k => laws_eqPointS.f k xs xs) true := by
  unfold laws_eqPointS.f
  obtain ⟨r, hev, hiff⟩ := eqPointS_l0 xs xs rfl hn xs xs 0 rfl rfl
  exact ev_pos rfl (ev_eq hev (hiff.2 rfl))
theorem szPointS_cases (xs : List S53) (hn : xs.length ≤ 9223372036854775807) : ∃ r : Int, laws_szPointS.f xs 1048576 = some r ∧ (¬ r < 0 → xs.length ≤ 1048576) := by
  unfold laws_szPointS.f
  rw [wrap_id (by omega) (by omega)]
  by_cases h : (1048576 : Int) - xs.length < 0
  · exact ⟨-1, by rw [if_pos h], by omega⟩
  · exact ⟨_, by rw [if_neg h], by omega⟩
def okPoint (p : S48) : Prop := (1 ≤ p.f0 ∧ p.f0 ≤ 99) ∧ (1 ≤ p.f1 ∧ p.f1 ≤ 2) ∧ 0 ≤ p.f2 ∧ p.f2 ≤ 4
instance (p : S48) : Decidable (okPoint p) := by unfold okPoint; infer_instance
/-- All points from the first one on are good, and their Ids go up, from behind q on. -/
def goodFrom : Option Int → List S48 → Bool
  | _, [] => true
  | q, p :: r => decide (okPoint p) && (match q with | none => true | some x => decide (x < p.f0)) && goodFrom (some p.f0) r
def arePoints (l : List S48) : Bool := goodFrom none l && decide (l.length ≤ 30)
def before (xs : List S48) (i : Nat) : Option Int := if i = 0 then none else some (xs.getD (i - 1) z48).f0
theorem before_succ {xs : List S48} {i : Nat} {z : S48} (h : xs[i]? = some z) : before xs (i + 1) = some z.f0 := by
  unfold before
  rw [if_neg (by omega), Nat.add_sub_cancel, List.getD_eq_getElem?_getD, h]
  rfl
theorem arePoints_spec_l0 (xs : List S48) (hn : xs.length ≤ 9223372036854775807) : ∀ (zs : List S48) (i : Nat), xs.drop i = zs → Ev (fun k => spec_ArePoints.l0 k xs (i : Int)) (goodFrom (before xs i) zs && decide (xs.length ≤ 30)) := by
  intro zs
  induction zs with
  | nil =>
    intro i h
    have := at_end h
    refine Ev.step (fun k => by rw [spec_ArePoints.l0]) ?_
    exact ev_neg (by omega) (ev_eq (Ev.now _) (by simp [goodFrom]; omega))
  | cons z zs ih =>
    intro i h
    obtain ⟨hi, hz, h2, hl⟩ := at_drop h
    have hr : rd_T48 xs (i : Int) = z := getD_at hz
    have ih2 := ih (i + 1) h2
    rw [before_succ hz] at ih2
    refine Ev.step (fun k => by rw [spec_ArePoints.l0]) ?_
    refine ev_pos (by omega) (ev_pos (by omega) ?_)
    rw [hr, wrap_id (x := (i : Int) + 1) (by omega) (by omega)]
    refine ev_bind0 (l1In_eq _ _ _) (ev_ite (fun e0 => ?_) (fun e0 => ev_eq (Ev.now _) ?_))
    · refine ev_bind0 (l1In_eq _ _ _) (ev_ite (fun e1 => ?_) (fun e1 => ev_eq (Ev.now _) ?_))
      · refine ev_bind0 (l1In_eq _ _ _) (ev_ite (fun e2 => ?_) (fun e2 => ev_eq (Ev.now _) ?_))
        · simp only [decide_eq_true_eq] at e0 e1 e2
          have hok : okPoint z := ⟨e0, e1, e2⟩
          by_cases hi0 : i = 0
          · refine ev_neg (by omega) (ev_eq ih2 ?_)
            subst hi0
            simp [goodFrom, before, hok]
          · obtain ⟨q, hq⟩ : ∃ q, xs[i - 1]? = some q := ⟨xs[i - 1]'(by omega), List.getElem?_eq_getElem (by omega)⟩
            have hb : before xs i = some q.f0 := by
              have := before_succ hq
              rwa [Nat.sub_add_cancel (by omega)] at this
            have hrq : rd_T48 xs ((i : Int) - 1) = q := by
              rw [show (i : Int) - 1 = ((i - 1 : Nat) : Int) by omega]
              exact getD_at hq
            rw [wrap_id (x := (i : Int) - 1) (by omega) (by omega), hrq]
            refine ev_pos (by omega) (ev_pos (by omega) (ev_pos (by omega) (ev_ite (fun e => ev_eq (Ev.now _) ?_) (fun e => ev_eq ih2 ?_))))
            · simp [goodFrom, hb, show ¬ q.f0 < z.f0 by omega]
            · simp [goodFrom, hb, hok, show q.f0 < z.f0 by omega]
        · simp only [decide_eq_true_eq] at e2
          simp [goodFrom, okPoint, e2]
      · simp only [decide_eq_true_eq] at e1
        simp [goodFrom, okPoint, e1]
    · simp only [decide_eq_true_eq] at e0
      simp [goodFrom, okPoint, e0]
theorem arePoints_spec (xs : List S48) (hn : xs.length ≤ 9223372036854775807) : Ev (fun k => spec_ArePoints.f k xs) (arePoints xs) := by
  unfold spec_ArePoints.f
  exact arePoints_spec_l0 xs hn xs 0 rfl
theorem arePoints_impl_l0 (xs : List S48) (hn : xs.length ≤ 9223372036854775807) : ∀ (zs : List S48) (i : Nat), xs.drop i = zs → Ev (fun k => impl_ArePoints.l0 k xs xs xs.length (i : Int)) (goodFrom (before xs i) zs) := by
  intro zs
  induction zs with
  | nil =>
    intro i h
    have := at_end h
    refine Ev.step (fun k => by rw [impl_ArePoints.l0]) ?_
    exact ev_neg (by omega) (ev_eq (Ev.now _) (by simp [goodFrom]))
  | cons z zs ih =>
    intro i h
    obtain ⟨hi, hz, h2, hl⟩ := at_drop h
    have hr : rd_T48 xs (i : Int) = z := getD_at hz
    have ih2 := ih (i + 1) h2
    rw [before_succ hz] at ih2
    refine Ev.step (fun k => by rw [impl_ArePoints.l0]) ?_
    refine ev_pos (by omega) (ev_pos (by omega) (ev_pos (by omega) ?_))
    rw [hr, wrap_id (x := (i : Int) + 1) (by omega) (by omega)]
    refine ev_bind0 (inRange_eq _ _ _) (ev_ite (fun e0 => ?_) (fun e0 => ev_eq (Ev.now _) ?_))
    · simp only [decide_eq_true_eq] at e0
      by_cases hi0 : i = 0
      · subst hi0
        refine ev_neg (by omega) ?_
        refine ev_bind0 (inRange_eq _ _ _) (ev_ite (fun e1 => ?_) (fun e1 => ev_eq (Ev.now _) ?_))
        · refine ev_bind0 (inRange_eq _ _ _) (ev_ite (fun e2 => ev_eq ih2 ?_) (fun e2 => ev_eq (Ev.now _) ?_))
          · simp only [decide_eq_true_eq] at e1 e2
            have hok : okPoint z := ⟨e0, e1, e2⟩
            simp [goodFrom, before, hok]
          · simp only [decide_eq_true_eq] at e2
            simp [goodFrom, okPoint, e2]
        · simp only [decide_eq_true_eq] at e1
          simp [goodFrom, okPoint, e1]
      · obtain ⟨q, hq⟩ : ∃ q, xs[i - 1]? = some q := ⟨xs[i - 1]'(by omega), List.getElem?_eq_getElem (by omega)⟩
        have hb : before xs i = some q.f0 := by
          have := before_succ hq
          rwa [Nat.sub_add_cancel (by omega)] at this
        have hrq : rd_T48 xs ((i : Int) - 1) = q := by
          rw [show (i : Int) - 1 = ((i - 1 : Nat) : Int) by omega]
          exact getD_at hq
        rw [wrap_id (x := (i : Int) - 1) (by omega) (by omega), hrq]
        refine ev_pos (by omega) (ev_pos (by omega) (ev_pos (by omega) (ev_ite (fun e => ev_eq (Ev.now _) ?_) (fun e => ?_))))
        · simp [goodFrom, hb, show ¬ q.f0 < z.f0 by omega]
        · refine ev_bind0 (inRange_eq _ _ _) (ev_ite (fun e1 => ?_) (fun e1 => ev_eq (Ev.now _) ?_))
          · refine ev_bind0 (inRange_eq _ _ _) (ev_ite (fun e2 => ev_eq ih2 ?_) (fun e2 => ev_eq (Ev.now _) ?_))
            · simp only [decide_eq_true_eq] at e1 e2
              have hok : okPoint z := ⟨e0, e1, e2⟩
              simp [goodFrom, hb, hok, show q.f0 < z.f0 by omega]
            · simp only [decide_eq_true_eq] at e2
              simp [goodFrom, okPoint, e2]
          · simp only [decide_eq_true_eq] at e1
            simp [goodFrom, okPoint, e1]
    · simp only [decide_eq_true_eq] at e0
      simp [goodFrom, okPoint, e0]
theorem arePoints_impl (xs : List S48) (hn : xs.length ≤ 9223372036854775807) : Ev (fun k => impl_ArePoints.f k xs) (arePoints xs) := by
  unfold impl_ArePoints.f
  refine ev_ite (fun e => ev_eq (Ev.now _) ?_) (fun e => ev_eq (arePoints_impl_l0 xs hn xs 0 rfl) ?_)
  · simp [arePoints, show ¬ xs.length ≤ 30 by omega]
  · simp [arePoints, before, show xs.length ≤ 30 by omega]
def upPts (k : Int) (n : Nat) : List S48 := (List.range n).map fun (i : Nat) => ⟨k + 3 * (i : Int), k + 3 * (i : Int) + 1, k + 3 * (i : Int) + 2⟩
theorem upPts_length (k : Int) (n : Nat) : (upPts k n).length = n := by simp [upPts]
theorem upPts_get (k : Int) (n i : Nat) (h : i < n) : rd_T48 (upPts k n) (i : Int) = ⟨k + 3 * (i : Int), k + 3 * (i : Int) + 1, k + 3 * (i : Int) + 2⟩ := by
  refine getD_at ?_
  simp [upPts, h]
theorem upPts_succ (k : Int) (n : Nat) : upPts k (n + 1) = ⟨k, k + 1, k + 2⟩ :: upPts (k + 3) n := by
  unfold upPts
  rw [List.range_succ_eq_map, List.map_cons, List.map_map]
  refine List.cons_eq_cons.2 ⟨by simp, List.map_congr_left fun i _ => ?_⟩
  simp only [Function.comp]
  rw [show k + 3 * ((i.succ : Nat) : Int) = k + 3 + 3 * (i : Int) by rw [Nat.succ_eq_add_one]; omega]
theorem rdT_set (xs : List S48) (i : Nat) (v : S48) (h : i < xs.length) : rd_T48 (xs.set i v) (i : Int) = v := by
  refine getD_at ?_
  simp [h]
theorem markPts_l0 : ∀ (d i : Nat) (xs : List S48) (k0 : Int), i + d = xs.length → 0 ≤ k0 → k0 + 3 * d ≤ 9223372036854775807 → xs.length ≤ 1048576 → Ev (fun k => laws_markPointS.l0 k xs k0 (i : Int)) (k0 + 3 * d, xs.take i ++ upPts k0 d) := by
  intro d
  induction d with
  | zero =>
    intro i xs k0 h _ _ _
    refine Ev.step (fun k => by rw [laws_markPointS.l0]) ?_
    refine ev_neg (by omega) (ev_eq (Ev.now _) ?_)
    rw [List.take_of_length_le (by omega)]
    simp [upPts]
  | succ d ih =>
    intro i xs k0 h h0 h1 h2
    refine Ev.step (fun k => by rw [laws_markPointS.l0]) ?_
    refine ev_pos (by omega) (ev_pos (by omega) (ev_bind0 rfl (ev_bind0 rfl ?_)))
    rw [wrap_id (x := (i : Int) + 1) (by omega) (by omega), wrap_id (x := k0 + 1) (by omega) (by omega), wrap_id (x := k0 + 1 + 1) (by omega) (by omega), wrap_id (x := k0 + 1 + 1 + 1) (by omega) (by omega), Int.toNat_natCast]
    have hrs : ∀ v, rd_T48 (xs.set i v) (i : Int) = v := fun v => rdT_set xs i v (by omega)
    simp only [hrs, List.set_set]
    refine ev_eq (ih (i + 1) _ (k0 + 1 + 1 + 1) (by rw [List.length_set]; omega) (by omega) (by omega) (by rw [List.length_set]; omega)) (Prod.ext (by show k0 + 1 + 1 + 1 + 3 * (d : Int) = k0 + 3 * ((d + 1 : Nat) : Int); omega) ?_)
    show List.take (i + 1) (xs.set i _) ++ upPts (k0 + 1 + 1 + 1) d = xs.take i ++ upPts k0 (d + 1)
    rw [take_set_at (by omega), upPts_succ, show k0 + 1 + 1 + 1 = k0 + 3 by omega, show k0 + 1 + 1 = k0 + 2 by omega, List.append_assoc]
    rfl
theorem markPts_ev (xs : List S48) (hn : xs.length ≤ 1048576) : Ev (fun k => laws_markPointS.f k xs 1) (1 + 3 * (xs.length : Int), upPts 1 xs.length) := by
  unfold laws_markPointS.f
  exact ev_eq (markPts_l0 xs.length 0 xs 1 (by omega) (by omega) (by omega) hn) (by simp)
theorem heldPts_l0 (n : Nat) (h1 : n ≤ 1048576) : ∀ (d i : Nat), i + d = n → Ev (fun k => laws_heldPointS.l0 k (upPts 1 n) (1 + 3 * (i : Int)) (i : Int)) (1 + 3 * (n : Int)) := by
  intro d
  induction d with
  | zero =>
    intro i h
    refine Ev.step (fun k => by rw [laws_heldPointS.l0]) ?_
    refine ev_neg (by rw [upPts_length]; omega) (ev_eq (Ev.now _) (by omega))
  | succ d ih =>
    intro i h
    refine Ev.step (fun k => by rw [laws_heldPointS.l0]) ?_
    rw [upPts_get 1 n i (by omega), wrap_id (x := (i : Int) + 1) (by omega) (by omega), wrap_id (x := 1 + 3 * (i : Int) + 1) (by omega) (by omega), wrap_id (x := 1 + 3 * (i : Int) + 1 + 1) (by omega) (by omega), wrap_id (x := 1 + 3 * (i : Int) + 1 + 1 + 1) (by omega) (by omega)]
    refine ev_pos (by rw [upPts_length]; omega) (ev_pos (by omega) (ev_pos rfl (ev_pos rfl (ev_pos (by show 1 + 3 * (i : Int) + 2 = 1 + 3 * (i : Int) + 1 + 1; omega) ?_))))
    have := ih (i + 1) (by omega)
    rw [show (1 : Int) + 3 * ((i + 1 : Nat) : Int) = 1 + 3 * (i : Int) + 1 + 1 + 1 by omega] at this
    exact this
theorem heldPts_ev (n : Nat) (h1 : n ≤ 1048576) : Ev (fun k => laws_heldPointS.f k (upPts 1 n) 1) (1 + 3 * (n : Int)) := by
  unfold laws_heldPointS.f
  exact heldPts_l0 n h1 n 0 (by omega)
/-- The place of the first point with an Id. -/
def ptAt (id : Int) : List S48 → Nat → Int
  | [], _ => -1
  | z :: zs, i => if z.f0 = id then i else ptAt id zs (i + 1)
theorem pointAt_l0 (L : List S48) (id : Int) (hn : L.length ≤ 1048576) : ∀ (zs : List S48) (i : Nat), L.drop i = zs → Ev (fun k => impl_pointAt.l0 k L id (i : Int)) (ptAt id zs i) := by
  intro zs
  induction zs with
  | nil =>
    intro i h
    have := at_end h
    refine Ev.step (fun k => by rw [impl_pointAt.l0]) ?_
    exact ev_neg (by omega) (Ev.now _)
  | cons z zs ih =>
    intro i h
    obtain ⟨hlt, hz, h2, _⟩ := at_drop h
    have hr : rd_T48 L (i : Int) = z := getD_at hz
    refine Ev.step (fun k => by rw [impl_pointAt.l0]) ?_
    rw [hr, wrap_id (by omega) (by omega)]
    unfold ptAt
    refine ev_pos (by omega) (ev_pos (by omega) (ev_ite (fun e => ev_eq (Ev.now _) ?_) (fun e => ev_eq (ih (i + 1) h2) ?_)))
    · rw [if_pos e]
    · rw [if_neg e]
      first | done | (cases zs <;> rfl)
theorem goodFrom_above : ∀ (zs : List S48) (x : Int), goodFrom (some x) zs = true → ∀ p ∈ zs, x < p.f0 := by
  intro zs
  induction zs with
  | nil => intro x _ p hp; exact absurd hp (by simp)
  | cons z zs ih =>
    intro x h p hp
    unfold goodFrom at h
    simp only [Bool.and_eq_true, decide_eq_true_eq] at h
    rcases List.mem_cons.1 hp with rfl | hp
    · exact h.1.2
    · have := ih z.f0 h.2 p hp
      omega
/-- Where a point with this number goes. -/
def posOf (id : Int) : List S48 → Nat
  | [] => 0
  | p :: r => if p.f0 < id then posOf id r + 1 else 0
def raiseAt (L : List S48) (id who : Int) (j : Nat) : List S48 × Bool := if arePoints (L.take j ++ [(⟨id, who, 0⟩ : S48)] ++ L.drop j) = true then (L.take j ++ [(⟨id, who, 0⟩ : S48)] ++ L.drop j, true) else (L, false)
def raiseV (L : List S48) (id who : Int) : List S48 × Bool := raiseAt L id who (posOf id L)
theorem raiseV_length (L : List S48) (id who : Int) (hn : L.length ≤ 1048576) : (raiseV L id who).1.length ≤ 1048576 := by
  unfold raiseV raiseAt
  split
  · rename_i h
    unfold arePoints at h
    rw [Bool.and_eq_true, decide_eq_true_eq] at h
    dsimp only
    omega
  · exact hn
theorem raise_spec_l0 (L : List S48) (id who : Int) (hn : L.length ≤ 1048576) : ∀ (zs : List S48) (i : Nat), L.drop i = zs → i ≤ L.length → Ev (fun k => spec_Raise.l0 k L id who (i : Int)) (raiseAt L id who (i + posOf id zs)) := by
  have hlen : ∀ j, j ≤ L.length → (L.take j).length = j := fun j hj => by rw [List.length_take]; omega
  have fin : ∀ j : Nat, j ≤ L.length → Ev (fun k => (spec_ArePoints.f k (([] : List S48) ++ L.take j ++ [(⟨id, who, 0⟩ : S48)] ++ L.drop j)).bind fun t => if t = true then some (([] : List S48) ++ L.take j ++ [(⟨id, who, 0⟩ : S48)] ++ L.drop j, true) else (some (([] : List S48) : List S48)).bind fun y => if y.length + L.length < 5864062014805 then some (y ++ L, false) else none) (raiseAt L id who j) := by
    intro j hj
    rw [List.nil_append]
    unfold raiseAt
    refine Ev.bind (arePoints_spec _ (by simp only [List.length_append, List.length_take, List.length_drop, List.length_singleton]; omega)) (ev_ite (fun e => ev_eq (Ev.now _) (by rw [if_pos e])) (fun e => ev_bind0 rfl (ev_pos (by rw [List.length_nil]; omega) (ev_eq (Ev.now _) (by rw [if_neg e, List.nil_append])))))
  intro zs
  induction zs with
  | nil =>
    intro i h hi
    have := at_end h
    refine Ev.step (fun k => by rw [spec_Raise.l0]) ?_
    refine ev_neg (by omega) (ev_bind0 rfl (ev_pos (by omega) (ev_pos (by omega) (ev_bind0 rfl (ev_pos ?_ (ev_bind0 rfl (ev_bind0 rfl (ev_pos ?_ (ev_bind0 rfl (ev_bind0 rfl (ev_pos ?_ (ev_bind0 rfl ?_))))))))))))
    · simp only [List.length_nil, List.length_take, Int.toNat_natCast]; omega
    · simp only [List.length_nil, List.length_append, List.length_take, List.length_singleton, Int.toNat_natCast]; omega
    · simp only [List.length_nil, List.length_append, List.length_take, List.length_drop, List.length_singleton, Int.toNat_natCast]; omega
    · rw [Int.toNat_natCast]
      exact fin i hi
  | cons z zs ih =>
    intro i h hi
    obtain ⟨hlt, hz, h2, _⟩ := at_drop h
    have hr : rd_T48 L (i : Int) = z := getD_at hz
    refine Ev.step (fun k => by rw [spec_Raise.l0]) ?_
    rw [hr, wrap_id (by omega) (by omega)]
    unfold posOf
    refine ev_pos (by omega) (ev_pos (by omega) (ev_ite (fun e => ?_) (fun e => ?_)))
    · rw [if_pos e]
      refine ev_eq (ih (i + 1) h2 (by omega)) ?_
      rw [show i + 1 + posOf id zs = i + (posOf id zs + 1) by omega]
    · rw [if_neg e, Nat.add_zero]
      refine ev_bind0 rfl (ev_pos (by omega) (ev_bind0 rfl (ev_pos ?_ (ev_bind0 rfl (ev_bind0 rfl (ev_pos ?_ (ev_bind0 rfl (ev_bind0 rfl (ev_pos ?_ (ev_bind0 rfl ?_))))))))))
      · simp only [List.length_nil, List.length_take, Int.toNat_natCast]; omega
      · simp only [List.length_nil, List.length_append, List.length_take, List.length_singleton, Int.toNat_natCast]; omega
      · simp only [List.length_nil, List.length_append, List.length_take, List.length_drop, List.length_singleton, Int.toNat_natCast]; omega
      · rw [Int.toNat_natCast]
        exact fin i hi
theorem raise_spec (L : List S48) (id who : Int) (hn : L.length ≤ 1048576) : Ev (fun k => spec_Raise.f k L id who) (raiseV L id who) := by
  unfold spec_Raise.f raiseV
  refine ev_eq (raise_spec_l0 L id who hn L 0 rfl (by omega)) ?_
  rw [Nat.zero_add]
theorem goodFrom_apart : ∀ (zs : List S48) (q : Option Int), goodFrom q zs = true → zs.Pairwise (fun a b => a.f0 < b.f0) := by
  intro zs
  induction zs with
  | nil => intro q _; exact List.Pairwise.nil
  | cons z zs ih =>
    intro q h
    have hz : goodFrom (some z.f0) zs = true := by
      unfold goodFrom at h
      simp only [Bool.and_eq_true] at h
      exact h.2
    exact List.pairwise_cons.2 ⟨fun p hp => goodFrom_above zs z.f0 hz p hp, ih _ hz⟩
theorem ptAt_some (id : Int) : ∀ (zs : List S48) (i : Nat), 0 ≤ ptAt id zs i → ∃ p ∈ zs, p.f0 = id := by
  intro zs
  induction zs with
  | nil => intro i h; unfold ptAt at h; omega
  | cons z zs ih =>
    intro i h
    unfold ptAt at h
    split at h
    · rename_i e
      exact ⟨z, List.mem_cons_self, e⟩
    · obtain ⟨p, hp, e⟩ := ih (i + 1) h
      exact ⟨p, List.mem_cons_of_mem _ hp, e⟩
theorem raise_double (L : List S48) (id who : Int) (j : Nat) (h : ∃ p ∈ L, p.f0 = id) : raiseAt L id who j = (L, false) := by
  unfold raiseAt
  rw [if_neg]
  intro ha
  obtain ⟨p, hp, e⟩ := h
  unfold arePoints at ha
  rw [Bool.and_eq_true] at ha
  have hw := goodFrom_apart _ _ ha.1
  rw [List.append_assoc, List.pairwise_append] at hw
  obtain ⟨_, h2, h3⟩ := hw
  rw [List.singleton_append, List.pairwise_cons] at h2
  rw [← List.take_append_drop j L, List.mem_append] at hp
  rcases hp with hp | hp
  · have := h3 p hp ⟨id, who, 0⟩ (by simp)
    simp only at this
    omega
  · have := h2.1 p hp
    simp only at this
    omega
theorem clonePts_eq (L : List S48) (hn : L.length ≤ 1048576) : impl_Point_35.f L = some L := by
  unfold impl_Point_35.f
  rw [Option.bind_some, if_pos (by rw [List.length_nil]; omega), List.nil_append]
theorem raise_impl_l0 (L : List S48) (id who : Int) (hn : L.length ≤ 1048576) : ∀ (zs : List S48) (i : Nat), L.drop i = zs → i ≤ L.length → Ev (fun k => impl_Raise.l0 k L id who L (i : Int)) (raiseAt L id who (i + posOf id zs)) := by
  have fin : ∀ j : Nat, j ≤ L.length → Ev (fun k => impl_Raise.j1 k L id who L (j : Int)) (raiseAt L id who j) := by
    intro j hj
    refine Ev.step (fun k => by rw [impl_Raise.j1]) ?_
    refine ev_bind0 (a := L.take j ++ [(⟨id, who, 0⟩ : S48)] ++ L.drop j) ?_ ?_
    · unfold impl_Point_37.f
      rw [if_pos ⟨by omega, by omega, rfl, by omega⟩, Int.toNat_natCast]
    · unfold raiseAt
      exact Ev.bind (arePoints_impl _ (by simp only [List.length_append, List.length_take, List.length_drop, List.length_singleton]; omega)) (ev_ite (fun e => ev_eq (Ev.now _) (by rw [if_pos e])) (fun e => ev_bind0 (clonePts_eq L hn) (ev_eq (Ev.now _) (by rw [if_neg e]))))
  intro zs
  induction zs with
  | nil =>
    intro i h hi
    have := at_end h
    refine Ev.step (fun k => by rw [impl_Raise.l0]) ?_
    exact ev_neg (by omega) (fin i hi)
  | cons z zs ih =>
    intro i h hi
    obtain ⟨hlt, hz, h2, _⟩ := at_drop h
    have hr : rd_T48 L (i : Int) = z := getD_at hz
    refine Ev.step (fun k => by rw [impl_Raise.l0]) ?_
    rw [hr, wrap_id (by omega) (by omega)]
    unfold posOf
    refine ev_pos (by omega) (ev_pos (by omega) (ev_ite (fun e => ?_) (fun e => ?_)))
    · rw [if_pos e]
      refine ev_eq (ih (i + 1) h2 (by omega)) ?_
      rw [show i + 1 + posOf id zs = i + (posOf id zs + 1) by omega]
    · rw [if_neg e, Nat.add_zero]
      exact fin i hi
theorem raise_impl (L : List S48) (id who : Int) (hn : L.length ≤ 1048576) : Ev (fun k => impl_Raise.f k L id who) (raiseV L id who) := by
  unfold impl_Raise.f
  have hp : Ev (fun k => impl_pointAt.f k L id) (ptAt id L 0) := by
    unfold impl_pointAt.f
    exact pointAt_l0 L id hn L 0 rfl
  refine ev_bind0 (clonePts_eq L hn) (Ev.bind hp (ev_ite (fun e => ev_eq (Ev.now _) ?_) (fun e => ?_)))
  · exact (raise_double L id who _ (ptAt_some id L 0 e)).symm
  · refine ev_eq (raise_impl_l0 L id who hn L 0 rfl (by omega)) ?_
    rw [Nat.zero_add]
    rfl

theorem FnExactRaise (l0 : List (S53)) (g0 : l0.length ≤ 9223372036854775807 ∧ ∀ y ∈ l0, ((Lit.int .i64 y.f0).wf = true) ∧ ((Lit.int .i64 y.f1).wf = true) ∧ ((Lit.int .i64 y.f2).wf = true)) (a1 : Int) (g1 : (Lit.int .i64 a1).wf = true) (a2 : Int) (g2 : (Lit.int .i64 a2).wf = true) : ∃ k, laws_FnExactRaise.f k l0 a1 a2 = some true := by
  refine Ev.rounds (g := fun k => laws_FnExactRaise.f k l0 a1 a2) ?_
  unfold laws_FnExactRaise.f
  obtain ⟨r, hr, hle⟩ := szPointS_cases l0 g0.1
  refine ev_bind0 hr (ev_ite (fun _ => Ev.now _) (fun h => ?_))
  have hn := hle h
  have hm : (l0.map toPoint).length ≤ 1048576 := by simpa using hn
  have hs := raise_spec (l0.map toPoint) a1 a2 hm
  have hp := raise_impl (l0.map toPoint) a1 a2 hm
  have hR := raiseV_length (l0.map toPoint) a1 a2 hm
  generalize raiseV (l0.map toPoint) a1 a2 = R at hs hp hR
  obtain ⟨R1, R2⟩ := R
  dsimp only at hR
  refine Ev.bind (toPointS_ev l0 (by omega)) (Ev.bind hs (Ev.bind (toPointS_ev l0 (by omega)) (Ev.bind hp ?_)))
  dsimp only
  refine Ev.bind (eqPointS_same R1 (by omega)) (ev_pos rfl ?_)
  refine Ev.step (fun k => by rw [laws_FnExactRaise.j0]) ?_
  refine ev_neg (by simp) (Ev.bind (toPointS_ev l0 (by omega)) (Ev.bind (eqPointS_same _ (by omega)) (ev_pos rfl (Ev.bind (markPts_ev _ hm) ?_))))
  dsimp only
  refine ev_neg (by omega) (Ev.bind (eqPointS_same R1 (by omega)) (ev_pos rfl ?_))
  refine Ev.step (fun k => by rw [laws_FnExactRaise.j1]) ?_
  refine ev_neg (by simp) (Ev.bind (markPts_ev R1 hR) ?_)
  dsimp only
  refine Ev.bind (heldPts_ev R1.length hR) (ev_neg (by omega) (ev_pos rfl (Ev.bind (toPointS_ev l0 (by omega)) (Ev.bind hp ?_))))
  dsimp only
  refine Ev.bind (eqPointS_same R1 (by omega)) (ev_pos rfl ?_)
  refine Ev.step (fun k => by rw [laws_FnExactRaise.j2]) ?_
  exact ev_neg (by simp) (Ev.bind (heldPts_ev R1.length hR) (ev_neg (by omega) (ev_pos rfl (Ev.now _))))

end Go.Proofs.Ytjidlgimnigllaa.Pure
