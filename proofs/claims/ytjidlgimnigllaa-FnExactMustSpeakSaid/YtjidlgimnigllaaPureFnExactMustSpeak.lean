/- The plain statement of the law FnExactMustSpeak, for all numbers and lists. -/
import Derived.Test.YtjidlgimnigllaaPFnExactMustSpeakx0
import Derived.Test.YtjidlgimnigllaaPFnExactMustSpeakx1
import Derived.Test.YtjidlgimnigllaaPFnExactMustSpeakx2
import Derived.Test.YtjidlgimnigllaaPFnExactMustSpeakx3
import Derived.Test.YtjidlgimnigllaaPFnExactMustSpeakx4
import Derived.Test.YtjidlgimnigllaaPFnExactMustSpeakx5
import Derived.Test.YtjidlgimnigllaaPFnExactMustSpeakx6
import Derived.Test.YtjidlgimnigllaaPFnExactMustSpeakx7
import Derived.Test.YtjidlgimnigllaaBase
set_option linter.unusedVariables false
set_option linter.unusedSimpArgs false
namespace Go.Proofs.Ytjidlgimnigllaa.Pure
open Go.RowKit Go.Proofs.Ytjidlgimnigllaa.PFnExactMustSpeak Go.Proofs.YtjidlgimnigllaaW.PrintWords Go.Proofs.YtjidlgimnigllaaW.PrintLast Go.Proofs.YtjidlgimnigllaaW.PrintMore Go.Proofs.Ytjidlgimnigllaa.Base
theorem eqIntS_l0 (xs ys : List Int) (hl : xs.length = ys.length) (hn : xs.length ≤ 9223372036854775807) : ∀ (zs us : List Int) (i : Nat), xs.drop i = zs → ys.drop i = us → Ev (fun k => laws_eqIntS.l0 k xs ys (i : Int)) (decide (zs = us)) := by
  intro zs
  induction zs with
  | nil =>
    intro us i h hu
    have := at_end h
    refine Ev.step (fun k => by rw [laws_eqIntS.l0]) (ev_neg (by omega) ?_)
    rw [List.drop_of_length_le (by omega)] at hu
    subst hu
    exact ev_eq (Ev.now _) (by simp)
  | cons z zs ih =>
    intro us i h hu
    obtain ⟨hi, hz, h', _⟩ := at_drop h
    cases us with
    | nil => have := at_end hu; omega
    | cons u us =>
      obtain ⟨_, hzu, hu', _⟩ := at_drop hu
      refine Ev.step (fun k => by rw [laws_eqIntS.l0]) (ev_pos (by omega) (ev_pos (by omega) (ev_pos (by omega) ?_)))
      rw [wrap_id (by omega) (by omega), rd_get hz, rd_get hzu]
      refine ev_ite (fun e => ev_eq (ih us (i + 1) h' hu') (by simp [e])) (fun e => ev_eq (Ev.now _) (by simp [e]))
theorem eqIntS_ev (xs ys : List Int) (hn : xs.length ≤ 9223372036854775807) : Ev (fun k => laws_eqIntS.f k xs ys) (decide (xs = ys)) := by
  unfold laws_eqIntS.f
  refine ev_ite (fun e => eqIntS_l0 xs ys (by omega) hn xs ys 0 rfl rfl) (fun e => ev_eq (Ev.now _) ?_)
  have : xs ≠ ys := by rintro rfl; exact e rfl
  simp [this]
theorem eqIntS_same (xs : List Int) (hn : xs.length ≤ 9223372036854775807) : Ev (fun k => laws_eqIntS.f k xs xs) true := ev_eq (eqIntS_ev xs xs hn) (by simp)
theorem markIntS_l0 : ∀ (d i : Nat) (xs : List Int) (k0 : Int), i + d = xs.length → 0 ≤ k0 → k0 + d ≤ 9223372036854775807 → xs.length ≤ 9223372036854775807 → Ev (fun k => laws_markIntS.l0 k xs k0 (i : Int)) (k0 + d, xs.take i ++ upFrom k0 d) := by
  intro d
  induction d with
  | zero =>
    intro i xs k0 h _ _ _
    refine Ev.step (fun k => by rw [laws_markIntS.l0]) (ev_neg (by omega) (ev_eq (Ev.now _) ?_))
    rw [List.take_of_length_le (by omega)]
    simp [upFrom]
  | succ d ih =>
    intro i xs k0 h h0 h1 h2
    refine Ev.step (fun k => by rw [laws_markIntS.l0]) (ev_pos (by omega) (ev_pos (by omega) ?_))
    rw [wrap_id (x := (i : Int) + 1) (by omega) (by omega), wrap_id (by omega) (by omega), Int.toNat_natCast]
    refine ev_eq (ih (i + 1) _ (k0 + 1) (by first | (simp; done) | (simp; omega)) (by omega) (by omega) (by simpa using h2)) (Prod.ext (by first | (simp; done) | (simp; omega)) ?_)
    show List.take (i + 1) (xs.set i k0) ++ upFrom (k0 + 1) d = xs.take i ++ upFrom k0 (d + 1)
    rw [take_set_at (by omega), upFrom_succ]
    simp
theorem markIntS_ev (xs : List Int) (k0 : Int) (h0 : 0 ≤ k0) (h1 : k0 + xs.length ≤ 9223372036854775807) : Ev (fun k => laws_markIntS.f k xs k0) (k0 + xs.length, upFrom k0 xs.length) := by
  unfold laws_markIntS.f
  exact ev_eq (markIntS_l0 xs.length 0 xs k0 (by omega) h0 h1 (by omega)) (by simp)
theorem heldIntS_l0 (k1 : Int) (n : Nat) (h0 : 0 ≤ k1) (h1 : k1 + n ≤ 9223372036854775807) : ∀ (d i : Nat), i + d = n → Ev (fun k => laws_heldIntS.l0 k (upFrom k1 n) (k1 + i) (i : Int)) (k1 + n) := by
  intro d
  induction d with
  | zero =>
    intro i h
    refine Ev.step (fun k => by rw [laws_heldIntS.l0]) (ev_neg (by rw [upFrom_length]; omega) ?_)
    exact ev_eq (Ev.now _) (by omega)
  | succ d ih =>
    intro i h
    refine Ev.step (fun k => by rw [laws_heldIntS.l0]) (ev_pos (by rw [upFrom_length]; omega) (ev_pos (by omega) (ev_pos (rd_get (upFrom_get k1 n i (by omega))) ?_)))
    rw [wrap_id (x := (i : Int) + 1) (by omega) (by omega), wrap_id (by omega) (by omega)]
    have := ih (i + 1) (by omega)
    rw [show k1 + ((i + 1 : Nat) : Int) = k1 + i + 1 by omega] at this
    exact this
theorem heldIntS_ev (k1 : Int) (n : Nat) (h0 : 0 ≤ k1) (h1 : k1 + n ≤ 9223372036854775807) : Ev (fun k => laws_heldIntS.f k (upFrom k1 n) k1) (k1 + n) := by
  unfold laws_heldIntS.f
  have := heldIntS_l0 k1 n h0 h1 n 0 (by omega)
  simpa using this
theorem l1In_eq (x a b : Int) : spec_l1In.f x a b = some (decide (a ≤ x ∧ x ≤ b)) := by
  unfold spec_l1In.f
  by_cases h : a ≤ x <;> simp [h]
theorem inRange_eq (x a b : Int) : impl_InRange.f x a b = some (decide (a ≤ x ∧ x ≤ b)) := by
  unfold impl_InRange.f
  by_cases h : a ≤ x <;> simp [h]

def toPoint (x : S53) : S48 := ⟨x.f0, x.f1, x.f2⟩
theorem toPointS_l0 (xs : List S53) (hn : xs.length ≤ 11728124029610) : ∀ (zs : List S53) (i : Nat) (ys : List S48), xs.drop i = zs → ys.length = xs.length → ys.take i = (xs.map toPoint).take i → Ev (fun k => laws_toPointS.l0 k xs ys (i : Int)) (xs.map toPoint) := by
  intro zs
  induction zs with
  | nil =>
    intro i ys h hl ht
    have := at_end h
    refine Ev.step (fun k => by rw [laws_toPointS.l0]) ?_
    refine ev_neg (by omega) ?_
    rw [List.take_of_length_le (by omega), List.take_of_length_le (by first | (simp; done) | (simp; omega))] at ht
    rw [ht]
    exact Ev.now _
  | cons z zs ih =>
    intro i ys h hl ht
    obtain ⟨hi, hz, h2, _⟩ := at_drop h
    have hr : rd_T53 xs (i : Int) = z := getD_at hz
    refine Ev.step (fun k => by rw [laws_toPointS.l0]) ?_
    refine ev_pos (by omega) (ev_pos (by omega) (ev_bind0 (a := (z.f0, z.f1, z.f2)) (by rw [hr]; rfl) (ev_pos (by omega) ?_)))
    rw [wrap_id (by omega) (by omega), Int.toNat_natCast]
    refine ih (i + 1) _ h2 (by simp [hl]) ?_
    rw [take_set_at (by omega), take_at (z := toPoint z) (by simp [hz]), ht]
    rfl
theorem toPointS_ev (xs : List S53) (hn : xs.length ≤ 11728124029610) : Ev (fun k => laws_toPointS.f k xs) (xs.map toPoint) := by
  unfold laws_toPointS.f
  exact ev_pos (by omega) (ev_pos (by omega) (toPointS_l0 xs hn xs 0 _ rfl (by simp) (by simp)))
theorem eqPoint_eq (a b : S48) : laws_eqPoint.f a.f0 a.f1 a.f2 b.f0 b.f1 b.f2 = some (decide (a.f0 = b.f0 ∧ a.f1 = b.f1 ∧ a.f2 = b.f2)) := by
  unfold laws_eqPoint.f
  by_cases h0 : a.f0 = b.f0
  · by_cases h1 : a.f1 = b.f1
    · by_cases h2 : a.f2 = b.f2 <;> simp [h0, h1, h2]
    · simp [h1]
  · simp [h0]
theorem Point_ext (a b : S48) : (a.f0 = b.f0 ∧ a.f1 = b.f1 ∧ a.f2 = b.f2) ↔ a = b := by
  cases a; cases b; simp
theorem eqPointS_l0 (xs : List S48) (ys : List S48) (hl : xs.length = ys.length) (hn : xs.length ≤ 9223372036854775807) : ∀ (zs us : List S48) (i : Nat), xs.drop i = zs → ys.drop i = us → ∃ r : Bool, Ev (fun k => laws_eqPointS.l0 k xs ys (i : Int)) r ∧ (r = true ↔ zs = us) := by
  intro zs
  induction zs with
  | nil =>
    intro us i h hu
    have := at_end h
    rw [List.drop_of_length_le (by omega)] at hu
    subst hu
    refine ⟨true, Ev.step (fun k => by rw [laws_eqPointS.l0]) ?_, by simp⟩
    exact ev_neg (by omega) (Ev.now _)
  | cons z zs ih =>
    intro us i h hu
    obtain ⟨hi, hz, h2, _⟩ := at_drop h
    cases us with
    | nil => have := at_end hu; omega
    | cons u us =>
      obtain ⟨_, hzu, hu2, _⟩ := at_drop hu
      have hr : rd_T48 xs (i : Int) = z := getD_at hz
      have hr2 : rd_T48 ys (i : Int) = u := getD_at hzu
      obtain ⟨r, hev, hiff⟩ := ih us (i + 1) h2 hu2
      by_cases e : z.f0 = u.f0 ∧ z.f1 = u.f1 ∧ z.f2 = u.f2
      · refine ⟨r, Ev.step (fun k => by rw [laws_eqPointS.l0]) ?_, ?_⟩
        · refine ev_pos (by omega) (ev_pos (by omega) (ev_pos (by omega) ?_))
          rw [wrap_id (by omega) (by omega), hr, hr2]
          exact ev_bind0 (eqPoint_eq z u) (ev_pos (by simpa using e) hev)
        · rw [hiff, (Point_ext z u).1 e]
          simp
      · refine ⟨false, Ev.step (fun k => by rw [laws_eqPointS.l0]) ?_, ?_⟩
        · refine ev_pos (by omega) (ev_pos (by omega) (ev_pos (by omega) ?_))
          rw [wrap_id (by omega) (by omega), hr, hr2]
          exact ev_bind0 (eqPoint_eq z u) (ev_neg (by simpa using e) (Ev.now _))
        · have : z ≠ u := fun he => e ((Point_ext z u).2 he)
          simp [this]
theorem eqPointS_same (xs : List S48) (hn : xs.length ≤ 9223372036854775807) : Ev (fun k => laws_eqPointS.f k xs xs) true := by
  unfold laws_eqPointS.f
  obtain ⟨r, hev, hiff⟩ := eqPointS_l0 xs xs rfl hn xs xs 0 rfl rfl
  exact ev_pos rfl (ev_eq hev (hiff.2 rfl))
theorem szPointS_cases (xs : List S53) (hn : xs.length ≤ 9223372036854775807) : ∃ r : Int, laws_szPointS.f xs 1048576 = some r ∧ (¬ r < 0 → xs.length ≤ 1048576) := by
  unfold laws_szPointS.f
  rw [wrap_id (by omega) (by omega)]
  by_cases h : (1048576 : Int) - xs.length < 0
  · exact ⟨-1, by rw [if_pos h], by omega⟩
  · exact ⟨_, by rw [if_neg h], by omega⟩
def okPoint (p : S48) : Prop := (1 ≤ p.f0 ∧ p.f0 ≤ 99) ∧ (1 ≤ p.f1 ∧ p.f1 ≤ 2) ∧ 0 ≤ p.f2 ∧ p.f2 ≤ 4
instance (p : S48) : Decidable (okPoint p) := by unfold okPoint; infer_instance
/-- All points from the first one on are good, and their Ids go up, from behind q on. -/
def goodFrom : Option Int → List S48 → Bool
  | _, [] => true
  | q, p :: r => decide (okPoint p) && (match q with | none => true | some x => decide (x < p.f0)) && goodFrom (some p.f0) r
def arePoints (l : List S48) : Bool := goodFrom none l && decide (l.length ≤ 30)
def before (xs : List S48) (i : Nat) : Option Int := if i = 0 then none else some (xs.getD (i - 1) z48).f0
theorem before_succ {xs : List S48} {i : Nat} {z : S48} (h : xs[i]? = some z) : before xs (i + 1) = some z.f0 := by
  unfold before
  rw [if_neg (by omega), Nat.add_sub_cancel, List.getD_eq_getElem?_getD, h]
  rfl
theorem arePoints_spec_l0 (xs : List S48) (hn : xs.length ≤ 9223372036854775807) : ∀ (zs : List S48) (i : Nat), xs.drop i = zs → Ev (fun k => spec_ArePoints.l0 k xs (i : Int)) (goodFrom (before xs i) zs && decide (xs.length ≤ 30)) := by
  intro zs
  induction zs with
  | nil =>
    intro i h
    have := at_end h
    refine Ev.step (fun k => by rw [spec_ArePoints.l0]) ?_
    exact ev_neg (by omega) (ev_eq (Ev.now _) (by simp [goodFrom]; omega))
  | cons z zs ih =>
    intro i h
    obtain ⟨hi, hz, h2, hl⟩ := at_drop h
    have hr : rd_T48 xs (i : Int) = z := getD_at hz
    have ih2 := ih (i + 1) h2
    rw [before_succ hz] at ih2
    refine Ev.step (fun k => by rw [spec_ArePoints.l0]) ?_
    refine ev_pos (by omega) (ev_pos (by omega) ?_)
    rw [hr, wrap_id (x := (i : Int) + 1) (by omega) (by omega)]
    refine ev_bind0 (l1In_eq _ _ _) (ev_ite (fun e0 => ?_) (fun e0 => ev_eq (Ev.now _) ?_))
    · refine ev_bind0 (l1In_eq _ _ _) (ev_ite (fun e1 => ?_) (fun e1 => ev_eq (Ev.now _) ?_))
      · refine ev_bind0 (l1In_eq _ _ _) (ev_ite (fun e2 => ?_) (fun e2 => ev_eq (Ev.now _) ?_))
        · simp only [decide_eq_true_eq] at e0 e1 e2
          have hok : okPoint z := ⟨e0, e1, e2⟩
          by_cases hi0 : i = 0
          · refine ev_neg (by omega) (ev_eq ih2 ?_)
            subst hi0
            simp [goodFrom, before, hok]
          · obtain ⟨q, hq⟩ : ∃ q, xs[i - 1]? = some q := ⟨xs[i - 1]'(by omega), List.getElem?_eq_getElem (by omega)⟩
            have hb : before xs i = some q.f0 := by
              have := before_succ hq
              rwa [Nat.sub_add_cancel (by omega)] at this
            have hrq : rd_T48 xs ((i : Int) - 1) = q := by
              rw [show (i : Int) - 1 = ((i - 1 : Nat) : Int) by omega]
              exact getD_at hq
            rw [wrap_id (x := (i : Int) - 1) (by omega) (by omega), hrq]
            refine ev_pos (by omega) (ev_pos (by omega) (ev_pos (by omega) (ev_ite (fun e => ev_eq (Ev.now _) ?_) (fun e => ev_eq ih2 ?_))))
            · simp [goodFrom, hb, show ¬ q.f0 < z.f0 by omega]
            · simp [goodFrom, hb, hok, show q.f0 < z.f0 by omega]
        · simp only [decide_eq_true_eq] at e2
          simp [goodFrom, okPoint, e2]
      · simp only [decide_eq_true_eq] at e1
        simp [goodFrom, okPoint, e1]
    · simp only [decide_eq_true_eq] at e0
      simp [goodFrom, okPoint, e0]
theorem arePoints_spec (xs : List S48) (hn : xs.length ≤ 9223372036854775807) : Ev (fun k => spec_ArePoints.f k xs) (arePoints xs) := by
  unfold spec_ArePoints.f
  exact arePoints_spec_l0 xs hn xs 0 rfl
theorem arePoints_impl_l0 (xs : List S48) (hn : xs.length ≤ 9223372036854775807) : ∀ (zs : List S48) (i : Nat), xs.drop i = zs → Ev (fun k => impl_ArePoints.l0 k xs xs xs.length (i : Int)) (goodFrom (before xs i) zs) := by
  intro zs
  induction zs with
  | nil =>
    intro i h
    have := at_end h
    refine Ev.step (fun k => by rw [impl_ArePoints.l0]) ?_
    exact ev_neg (by omega) (ev_eq (Ev.now _) (by simp [goodFrom]))
  | cons z zs ih =>
    intro i h
    obtain ⟨hi, hz, h2, hl⟩ := at_drop h
    have hr : rd_T48 xs (i : Int) = z := getD_at hz
    have ih2 := ih (i + 1) h2
    rw [before_succ hz] at ih2
    refine Ev.step (fun k => by rw [impl_ArePoints.l0]) ?_
    refine ev_pos (by omega) (ev_pos (by omega) (ev_pos (by omega) ?_))
    rw [hr, wrap_id (x := (i : Int) + 1) (by omega) (by omega)]
    refine ev_bind0 (inRange_eq _ _ _) (ev_ite (fun e0 => ?_) (fun e0 => ev_eq (Ev.now _) ?_))
    · simp only [decide_eq_true_eq] at e0
      by_cases hi0 : i = 0
      · subst hi0
        refine ev_neg (by omega) ?_
        refine ev_bind0 (inRange_eq _ _ _) (ev_ite (fun e1 => ?_) (fun e1 => ev_eq (Ev.now _) ?_))
        · refine ev_bind0 (inRange_eq _ _ _) (ev_ite (fun e2 => ev_eq ih2 ?_) (fun e2 => ev_eq (Ev.now _) ?_))
          · simp only [decide_eq_true_eq] at e1 e2
            have hok : okPoint z := ⟨e0, e1, e2⟩
            simp [goodFrom, before, hok]
          · simp only [decide_eq_true_eq] at e2
            simp [goodFrom, okPoint, e2]
        · simp only [decide_eq_true_eq] at e1
          simp [goodFrom, okPoint, e1]
      · obtain ⟨q, hq⟩ : ∃ q, xs[i - 1]? = some q := ⟨xs[i - 1]'(by omega), List.getElem?_eq_getElem (by omega)⟩
        have hb : before xs i = some q.f0 := by
          have := before_succ hq
          rwa [Nat.sub_add_cancel (by omega)] at this
        have hrq : rd_T48 xs ((i : Int) - 1) = q := by
          rw [show (i : Int) - 1 = ((i - 1 : Nat) : Int) by omega]
          exact getD_at hq
        rw [wrap_id (x := (i : Int) - 1) (by omega) (by omega), hrq]
        refine ev_pos (by omega) (ev_pos (by omega) (ev_pos (by omega) (ev_ite (fun e => ev_eq (Ev.now _) ?_) (fun e => ?_))))
        · simp [goodFrom, hb, show ¬ q.f0 < z.f0 by omega]
        · refine ev_bind0 (inRange_eq _ _ _) (ev_ite (fun e1 => ?_) (fun e1 => ev_eq (Ev.now _) ?_))
          · refine ev_bind0 (inRange_eq _ _ _) (ev_ite (fun e2 => ev_eq ih2 ?_) (fun e2 => ev_eq (Ev.now _) ?_))
            · simp only [decide_eq_true_eq] at e1 e2
              have hok : okPoint z := ⟨e0, e1, e2⟩
              simp [goodFrom, hb, hok, show q.f0 < z.f0 by omega]
            · simp only [decide_eq_true_eq] at e2
              simp [goodFrom, okPoint, e2]
          · simp only [decide_eq_true_eq] at e1
            simp [goodFrom, okPoint, e1]
    · simp only [decide_eq_true_eq] at e0
      simp [goodFrom, okPoint, e0]
theorem arePoints_impl (xs : List S48) (hn : xs.length ≤ 9223372036854775807) : Ev (fun k => impl_ArePoints.f k xs) (arePoints xs) := by
  unfold impl_ArePoints.f
  refine ev_ite (fun e => ev_eq (Ev.now _) ?_) (fun e => ev_eq (arePoints_impl_l0 xs hn xs 0 rfl) ?_)
  · simp [arePoints, show ¬ xs.length ≤ 30 by omega]
  · simp [arePoints, before, show xs.length ≤ 30 by omega]
def speaks (side : Int) (p : S48) : Bool := decide (p.f2 = 0 ∧ p.f1 ≠ side ∨ p.f2 = 2 ∧ p.f1 = side)
def speakers (side : Int) (l : List S48) : List Int := (l.filter (speaks side)).map fun p => p.f0
theorem speakers_length (side : Int) (l : List S48) : (speakers side l).length ≤ l.length := by
  unfold speakers
  rw [List.length_map]
  exact List.length_filter_le _ _
theorem speakers_cons (side : Int) (p : S48) (l : List S48) : speakers side (p :: l) = (if speaks side p then [p.f0] else []) ++ speakers side l := by
  unfold speakers
  rw [List.filter_cons]
  split <;> simp
def mustSpeak (l : List S48) (side : Int) : List Int := if arePoints l && decide (1 ≤ side ∧ side ≤ 2) then speakers side l else []
theorem mustSpeak_length (l : List S48) (side : Int) : (mustSpeak l side).length ≤ 30 := by
  unfold mustSpeak
  split
  · rename_i h
    have := speakers_length side l
    simp [arePoints] at h
    omega
  · simp
theorem mustSpeak_spec_l0 (xs : List S48) (side : Int) (hn : xs.length ≤ 1048576) : ∀ (zs : List S48) (i : Nat) (ys : List Int), xs.drop i = zs → ys.length + zs.length ≤ 1048576 → Ev (fun k => spec_MustSpeak.l0 k xs side ys (i : Int)) (if arePoints xs && decide (1 ≤ side ∧ side ≤ 2) then ys ++ speakers side zs else ys) := by
  intro zs
  induction zs with
  | nil =>
    intro i ys h _
    have := at_end h
    refine Ev.step (fun k => by rw [spec_MustSpeak.l0]) ?_
    refine ev_neg (by omega) (Ev.step (fun k => by rw [spec_MustSpeak.j1]) ?_)
    exact ev_neg (by decide) (ev_eq (Ev.now _) (by simp [speakers]))
  | cons z zs ih =>
    intro i ys h hc
    obtain ⟨hi, hz, h2, hl⟩ := at_drop h
    rw [List.length_cons] at hc
    have hr : rd_T48 xs (i : Int) = z := getD_at hz
    refine Ev.step (fun k => by rw [spec_MustSpeak.l0]) ?_
    refine ev_pos (by omega) (Ev.bind (arePoints_spec xs (by omega)) ?_)
    by_cases ha : arePoints xs = true
    · refine ev_pos ha (ev_bind0 (l1In_eq _ _ _) (Ev.step (fun k => by rw [spec_MustSpeak.j1]) ?_))
      by_cases hs : 1 ≤ side ∧ side ≤ 2
      · refine ev_pos (by simpa using hs) (ev_pos (by omega) (ev_pos (by omega) ?_))
        rw [hr, wrap_id (by omega) (by omega)]
        have ih1 := ih (i + 1) (ys ++ [z.f0]) h2 (by first | (simp; done) | (simp; omega))
        have ih2 := ih (i + 1) ys h2 (by omega)
        simp only [ha, hs, decide_true, Bool.and_self, if_true, and_self] at ih1 ih2 ⊢
        rw [speakers_cons]
        by_cases e0 : z.f2 = 0
        · by_cases e1 : z.f1 = side
          · have : speaks side z = false := by simp [speaks, e0, e1]
            rw [this]
            refine ev_pos e0 (ev_pos e1 (ev_neg (by omega) ?_))
            simpa using ih2
          · have : speaks side z = true := by simp [speaks, e0, e1]
            rw [this]
            refine ev_pos e0 (ev_neg e1 (ev_pos (by omega) ?_))
            simpa using ih1
        · by_cases e2 : z.f2 = 2
          · by_cases e1 : z.f1 = side
            · have : speaks side z = true := by simp [speaks, e2, e1]
              rw [this]
              refine ev_neg e0 (ev_pos e2 (ev_pos e1 (ev_pos (by omega) ?_)))
              simpa using ih1
            · have : speaks side z = false := by simp [speaks, e2, e1]
              rw [this]
              refine ev_neg e0 (ev_pos e2 (ev_neg e1 ?_))
              simpa using ih2
          · have : speaks side z = false := by simp [speaks, e0, e2]
            rw [this]
            refine ev_neg e0 (ev_neg e2 ?_)
            simpa using ih2
      · exact ev_neg (by simpa using hs) (ev_eq (Ev.now _) (by simp [hs]))
    · refine ev_neg ha (Ev.step (fun k => by rw [spec_MustSpeak.j1]) ?_)
      exact ev_neg (by decide) (ev_eq (Ev.now _) (by simp [ha]))
theorem mustSpeak_spec (xs : List S48) (side : Int) (hn : xs.length ≤ 1048576) : Ev (fun k => spec_MustSpeak.f k xs side) (mustSpeak xs side) := by
  unfold spec_MustSpeak.f
  exact ev_eq (mustSpeak_spec_l0 xs side hn xs 0 [] rfl (by simpa using hn)) (by unfold mustSpeak; simp)
theorem mustSpeak_impl_l0 (xs : List S48) (side : Int) (hn : xs.length ≤ 1048576) : ∀ (zs : List S48) (i : Nat) (ys : List Int), xs.drop i = zs → ys.length + zs.length ≤ 1048576 → Ev (fun k => impl_MustSpeak.l0 k side ys xs xs.length (i : Int)) (ys ++ speakers side zs) := by
  intro zs
  induction zs with
  | nil =>
    intro i ys h _
    have := at_end h
    refine Ev.step (fun k => by rw [impl_MustSpeak.l0]) ?_
    exact ev_neg (by omega) (ev_eq (Ev.now _) (by simp [speakers]))
  | cons z zs ih =>
    intro i ys h hc
    obtain ⟨hi, hz, h2, hl⟩ := at_drop h
    rw [List.length_cons] at hc
    have hr : rd_T48 xs (i : Int) = z := getD_at hz
    have ih1 := ih (i + 1) (ys ++ [z.f0]) h2 (by first | (simp; done) | (simp; omega))
    have ih2 := ih (i + 1) ys h2 (by omega)
    refine Ev.step (fun k => by rw [impl_MustSpeak.l0]) ?_
    refine ev_pos (by omega) (ev_pos (by omega) (ev_pos (by omega) ?_))
    rw [hr, wrap_id (by omega) (by omega), speakers_cons]
    by_cases e0 : z.f2 = 0
    · by_cases e1 : z.f1 = side
      · have : speaks side z = false := by simp [speaks, e0, e1]
        rw [this]
        refine ev_pos e0 (ev_pos e1 (ev_neg (by omega) ?_))
        simpa using ih2
      · have : speaks side z = true := by simp [speaks, e0, e1]
        rw [this]
        refine ev_pos e0 (ev_neg e1 (ev_pos (by omega) ?_))
        simpa using ih1
    · by_cases e2 : z.f2 = 2
      · by_cases e1 : z.f1 = side
        · have : speaks side z = true := by simp [speaks, e2, e1]
          rw [this]
          refine ev_neg e0 (ev_pos e2 (ev_pos e1 (ev_pos (by omega) ?_)))
          simpa using ih1
        · have : speaks side z = false := by simp [speaks, e2, e1]
          rw [this]
          refine ev_neg e0 (ev_pos e2 (ev_neg e1 ?_))
          simpa using ih2
      · have : speaks side z = false := by simp [speaks, e0, e2]
        rw [this]
        refine ev_neg e0 (ev_neg e2 ?_)
        simpa using ih2
theorem mustSpeak_impl (xs : List S48) (side : Int) (hn : xs.length ≤ 1048576) : Ev (fun k => impl_MustSpeak.f k xs side) (mustSpeak xs side) := by
  unfold impl_MustSpeak.f
  refine ev_bind0 rfl (Ev.bind (arePoints_impl xs (by omega)) ?_)
  by_cases ha : arePoints xs = true
  · refine ev_pos ha (ev_bind0 (inRange_eq _ _ _) (Ev.step (fun k => by rw [impl_MustSpeak.j0]) ?_))
    by_cases hs : 1 ≤ side ∧ side ≤ 2
    · refine ev_neg (by simp [hs]) (ev_eq (mustSpeak_impl_l0 xs side hn xs 0 [] rfl (by simpa using hn)) ?_)
      unfold mustSpeak
      simp [ha, hs]
    · refine ev_pos (by simp only [Bool.not_eq_true', decide_eq_false_iff_not]; exact hs) (ev_eq (Ev.now _) ?_)
      unfold mustSpeak
      simp [hs]
  · refine ev_neg ha (Ev.step (fun k => by rw [impl_MustSpeak.j0]) ?_)
    refine ev_pos rfl (ev_eq (Ev.now _) ?_)
    unfold mustSpeak
    simp [ha]
theorem markPointS_l0 : ∀ (d i : Nat) (xs : List S48) (k0 : Int), i + d = xs.length → 0 ≤ k0 → k0 + 3 * d ≤ 9223372036854775807 → xs.length ≤ 1048576 → ∃ ys, Ev (fun k => laws_markPointS.l0 k xs k0 (i : Int)) (k0 + 3 * d, ys) := by
  intro d
  induction d with
  | zero =>
    intro i xs k0 h _ _ _
    refine ⟨xs, Ev.step (fun k => by rw [laws_markPointS.l0]) ?_⟩
    exact ev_neg (by omega) (ev_eq (Ev.now _) (by simp))
  | succ d ih =>
    intro i xs k0 h h0 h1 h2
    obtain ⟨ys, hys⟩ := ih (i + 1) ((((xs.set i ⟨k0, (rd_T48 xs (i : Int)).f1, (rd_T48 xs (i : Int)).f2⟩).set i ⟨(rd_T48 (xs.set i ⟨k0, (rd_T48 xs (i : Int)).f1, (rd_T48 xs (i : Int)).f2⟩) (i : Int)).f0, k0 + 1, (rd_T48 (xs.set i ⟨k0, (rd_T48 xs (i : Int)).f1, (rd_T48 xs (i : Int)).f2⟩) (i : Int)).f2⟩).set i ⟨(rd_T48 ((xs.set i ⟨k0, (rd_T48 xs (i : Int)).f1, (rd_T48 xs (i : Int)).f2⟩).set i ⟨(rd_T48 (xs.set i ⟨k0, (rd_T48 xs (i : Int)).f1, (rd_T48 xs (i : Int)).f2⟩) (i : Int)).f0, k0 + 1, (rd_T48 (xs.set i ⟨k0, (rd_T48 xs (i : Int)).f1, (rd_T48 xs (i : Int)).f2⟩) (i : Int)).f2⟩) (i : Int)).f0, (rd_T48 ((xs.set i ⟨k0, (rd_T48 xs (i : Int)).f1, (rd_T48 xs (i : Int)).f2⟩).set i ⟨(rd_T48 (xs.set i ⟨k0, (rd_T48 xs (i : Int)).f1, (rd_T48 xs (i : Int)).f2⟩) (i : Int)).f0, k0 + 1, (rd_T48 (xs.set i ⟨k0, (rd_T48 xs (i : Int)).f1, (rd_T48 xs (i : Int)).f2⟩) (i : Int)).f2⟩) (i : Int)).f1, k0 + 1 + 1⟩)) (k0 + 1 + 1 + 1) (by first | (simp; done) | (simp; omega)) (by omega) (by omega) (by simpa using h2)
    refine ⟨ys, Ev.step (fun k => by rw [laws_markPointS.l0]) ?_⟩
    refine ev_pos (by omega) (ev_pos (by omega) (ev_bind0 rfl (ev_bind0 rfl ?_)))
    rw [wrap_id (x := (i : Int) + 1) (by omega) (by omega), wrap_id (x := k0 + 1) (by omega) (by omega), wrap_id (x := k0 + 1 + 1) (by omega) (by omega), wrap_id (x := k0 + 1 + 1 + 1) (by omega) (by omega)]
    refine ev_eq hys (Prod.ext ?_ rfl)
    simp
    omega
theorem markPointS_ev (xs : List S48) (hn : xs.length ≤ 1048576) : ∃ n ys, Ev (fun k => laws_markPointS.f k xs 1) (n, ys) ∧ ¬ n < 0 := by
  unfold laws_markPointS.f
  obtain ⟨ys, h⟩ := markPointS_l0 xs.length 0 xs 1 (by omega) (by omega) (by omega) hn
  exact ⟨_, ys, h, by omega⟩
theorem FnExactMustSpeak (l0 : List (S53)) (g0 : l0.length ≤ 9223372036854775807 ∧ ∀ y ∈ l0, ((Lit.int .i64 y.f0).wf = true) ∧ ((Lit.int .i64 y.f1).wf = true) ∧ ((Lit.int .i64 y.f2).wf = true)) (a1 : Int) (g1 : (Lit.int .i64 a1).wf = true) : ∃ k, laws_FnExactMustSpeak.f k l0 a1 = some true := by
  refine Ev.rounds (g := fun k => laws_FnExactMustSpeak.f k l0 a1) ?_
  unfold laws_FnExactMustSpeak.f
  obtain ⟨r, hr, hle⟩ := szPointS_cases l0 g0.1
  refine ev_bind0 hr (ev_ite (fun _ => Ev.now _) (fun h => ?_))
  have hn := hle h
  have hm : (l0.map toPoint).length ≤ 1048576 := by simpa using hn
  have hl := mustSpeak_length (l0.map toPoint) a1
  obtain ⟨n, ys, hmk, hn0⟩ := markPointS_ev _ hm
  refine Ev.bind (toPointS_ev l0 (by omega)) (Ev.bind (mustSpeak_spec _ _ hm) (Ev.bind (toPointS_ev l0 (by omega)) (Ev.bind (mustSpeak_impl _ _ hm) (Ev.bind (eqIntS_same _ (by omega)) (ev_pos rfl ?_)))))
  refine Ev.bind (toPointS_ev l0 (by omega)) (Ev.bind (eqPointS_same _ (by omega)) (ev_pos rfl (Ev.bind hmk (ev_neg hn0 (Ev.bind (eqIntS_same _ (by omega)) ?_)))))
  refine Ev.step (fun k => by rw [laws_FnExactMustSpeak.j0]) ?_
  refine ev_neg (by decide) (Ev.bind (markIntS_ev _ 1 (by omega) (by omega)) (Ev.bind (heldIntS_ev 1 _ (by omega) (by omega)) (ev_neg (by omega) (ev_pos rfl ?_))))
  refine Ev.bind (toPointS_ev l0 (by omega)) (Ev.bind (mustSpeak_impl _ _ hm) (Ev.bind (eqIntS_same _ (by omega)) (ev_pos rfl ?_)))
  exact Ev.bind (heldIntS_ev 1 _ (by omega) (by omega)) (ev_neg (by omega) (ev_pos rfl (Ev.now _)))

end Go.Proofs.Ytjidlgimnigllaa.Pure
