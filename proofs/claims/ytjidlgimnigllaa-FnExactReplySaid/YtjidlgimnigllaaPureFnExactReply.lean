/- The plain statement of the law FnExactReply, for all numbers and lists. -/
import Derived.Test.YtjidlgimnigllaaPFnExactReplyx0
import Derived.Test.YtjidlgimnigllaaPFnExactReplyx1
import Derived.Test.YtjidlgimnigllaaPFnExactReplyx2
import Derived.Test.YtjidlgimnigllaaPFnExactReplyx3
import Derived.Test.YtjidlgimnigllaaPFnExactReplyx4
import Derived.Test.YtjidlgimnigllaaPFnExactReplyx5
import Derived.Test.YtjidlgimnigllaaPFnExactReplyx6
import Derived.Test.YtjidlgimnigllaaBase
set_option linter.unusedVariables false
set_option linter.unusedSimpArgs false
namespace Go.Proofs.Ytjidlgimnigllaa.Pure
open Go.RowKit Go.Proofs.Ytjidlgimnigllaa.PFnExactReply Go.Proofs.YtjidlgimnigllaaW.PrintWords Go.Proofs.YtjidlgimnigllaaW.PrintLast Go.Proofs.YtjidlgimnigllaaW.PrintMore Go.Proofs.Ytjidlgimnigllaa.Base
theorem l1In_eq (x a b : Int) : spec_l1In.f x a b = some (decide (a ≤ x ∧ x ≤ b)) := by
  unfold spec_l1In.f
  by_cases h : a ≤ x <;> simp [h]
theorem inRange_eq (x a b : Int) : impl_InRange.f x a b = some (decide (a ≤ x ∧ x ≤ b)) := by
  unfold impl_InRange.f
  by_cases h : a ≤ x <;> simp [h]

def toPoint (x : S53) : S48 := ⟨x.f0, x.f1, x.f2⟩
theorem toPointS_l0 (xs : List S53) (hn : xs.length ≤ 11728124029610) : ∀ (zs : List S53) (i : Nat) (ys : List S48), xs.drop i = zs → ys.length = xs.length → ys.take i = (xs.map toPoint).take i → Ev (fun k => laws_toPointS.l0 k xs ys (i : Int)) (xs.map toPoint) := by
  intro zs
  induction zs with
  | nil =>
    intro i ys h hl ht
    have := at_end h
    refine Ev.step (fun k => by rw [laws_toPointS.l0]) ?_
    refine ev_neg (by omega) ?_
    rw [List.take_of_length_le (by omega), List.take_of_length_le (by first | (simp; done) | (simp; omega))] at ht
    rw [ht]
    exact Ev.now _
  | cons z zs ih =>
    intro i ys h hl ht
    obtain ⟨hi, hz, h2, _⟩ := at_drop h
    have hr : rd_T53 xs (i : Int) = z := getD_at hz
    refine Ev.step (fun k => by rw [laws_toPointS.l0]) ?_
    refine ev_pos (by omega) (ev_pos (by omega) (ev_bind0 (a := (z.f0, z.f1, z.f2)) (by rw [hr]; rfl) (ev_pos (by omega) ?_)))
    rw [wrap_id (by omega) (by omega), Int.toNat_natCast]
    refine ih (i + 1) _ h2 (by simp [hl]) ?_
    rw [take_set_at (by omega), take_at (z := toPoint z) (by simp [hz]), ht]
    rfl
theorem toPointS_ev (xs : List S53) (hn : xs.length ≤ 11728124029610) : Ev (fun k => laws_toPointS.f k xs) (xs.map toPoint) := by
  unfold laws_toPointS.f
  exact ev_pos (by omega) (ev_pos (by omega) (toPointS_l0 xs hn xs 0 _ rfl (by simp) (by simp)))
theorem eqPoint_eq (a b : S48) : laws_eqPoint.f a.f0 a.f1 a.f2 b.f0 b.f1 b.f2 = some (decide (a.f0 = b.f0 ∧ a.f1 = b.f1 ∧ a.f2 = b.f2)) := by
  unfold laws_eqPoint.f
  by_cases h0 : a.f0 = b.f0
  · by_cases h1 : a.f1 = b.f1
    · by_cases h2 : a.f2 = b.f2 <;> simp [h0, h1, h2]
    · simp [h1]
  · simp [h0]
theorem Point_ext (a b : S48) : (a.f0 = b.f0 ∧ a.f1 = b.f1 ∧ a.f2 = b.f2) ↔ a = b := by
  cases a; cases b; simp
theorem eqPointS_l0 (xs : List S48) (ys : List S48) (hl : xs.length = ys.length) (hn : xs.length ≤ 9223372036854775807) : ∀ (zs us : List S48) (i : Nat), xs.drop i = zs → ys.drop i = us → ∃ r : Bool, Ev (fun k => laws_eqPointS.l0 k xs ys (i : Int)) r ∧ (r = true ↔ zs = us) := by
  intro zs
  induction zs with
  | nil =>
    intro us i h hu
    have := at_end h
    rw [List.drop_of_length_le (by omega)] at hu
    subst hu
    refine ⟨true, Ev.step (fun k => by rw [laws_eqPointS.l0]) ?_, by simp⟩
    exact ev_neg (by omega) (Ev.now _)
  | cons z zs ih =>
    intro us i h hu
    obtain ⟨hi, hz, h2, _⟩ := at_drop h
    cases us with
    | nil => have := at_end hu; omega
    | cons u us =>
      obtain ⟨_, hzu, hu2, _⟩ := at_drop hu
      have hr : rd_T48 xs (i : Int) = z := getD_at hz
      have hr2 : rd_T48 ys (i : Int) = u := getD_at hzu
      obtain ⟨r, hev, hiff⟩ := ih us (i + 1) h2 hu2
      by_cases e : z.f0 = u.f0 ∧ z.f1 = u.f1 ∧ z.f2 = u.f2
      · refine ⟨r, Ev.step (fun k => by rw [laws_eqPointS.l0]) ?_, ?_⟩
        · refine ev_pos (by omega) (ev_pos (by omega) (ev_pos (by omega) ?_))
          rw [wrap_id (by omega) (by omega), hr, hr2]
          exact ev_bind0 (eqPoint_eq z u) (ev_pos (by simpa using e) hev)
        · rw [hiff, (Point_ext z u).1 e]
          simp
      · refine ⟨false, Ev.step (fun k => by rw [laws_eqPointS.l0]) ?_, ?_⟩
        · refine ev_pos (by omega) (ev_pos (by omega) (ev_pos (by omega) ?_))
          rw [wrap_id (by omega) (by omega), hr, hr2]
          exact ev_bind0 (eqPoint_eq z u) (ev_neg (by simpa using e) (Ev.now _))
        · have : z ≠ u := fun he => e ((Point_ext z u).2 he)
          simp [this]
theorem eqPointS_same (xs : List S48) (hn : xs.length ≤ 9223372036854775807) : Ev (fun k => laws_eqPointS.f k xs xs) true := by
  unfold laws_eqPointS.f
  obtain ⟨r, hev, hiff⟩ := eqPointS_l0 xs xs rfl hn xs xs 0 rfl rfl
  exact ev_pos rfl (ev_eq hev (hiff.2 rfl))
theorem szPointS_cases (xs : List S53) (hn : xs.length ≤ 9223372036854775807) : ∃ r : Int, laws_szPointS.f xs 1048576 = some r ∧ (¬ r < 0 → xs.length ≤ 1048576) := by
  unfold laws_szPointS.f
  rw [wrap_id (by omega) (by omega)]
  by_cases h : (1048576 : Int) - xs.length < 0
  · exact ⟨-1, by rw [if_pos h], by omega⟩
  · exact ⟨_, by rw [if_neg h], by omega⟩
def okPoint (p : S48) : Prop := (1 ≤ p.f0 ∧ p.f0 ≤ 99) ∧ (1 ≤ p.f1 ∧ p.f1 ≤ 2) ∧ 0 ≤ p.f2 ∧ p.f2 ≤ 4
instance (p : S48) : Decidable (okPoint p) := by unfold okPoint; infer_instance
/-- All points from the first one on are good, and their Ids go up, from behind q on. -/
def goodFrom : Option Int → List S48 → Bool
  | _, [] => true
  | q, p :: r => decide (okPoint p) && (match q with | none => true | some x => decide (x < p.f0)) && goodFrom (some p.f0) r
def arePoints (l : List S48) : Bool := goodFrom none l && decide (l.length ≤ 30)
def before (xs : List S48) (i : Nat) : Option Int := if i = 0 then none else some (xs.getD (i - 1) z48).f0
theorem before_succ {xs : List S48} {i : Nat} {z : S48} (h : xs[i]? = some z) : before xs (i + 1) = some z.f0 := by
  unfold before
  rw [if_neg (by omega), Nat.add_sub_cancel, List.getD_eq_getElem?_getD, h]
  rfl
theorem arePoints_spec_l0 (xs : List S48) (hn : xs.length ≤ 9223372036854775807) : ∀ (zs : List S48) (i : Nat), xs.drop i = zs → Ev (fun k => spec_ArePoints.l0 k xs (i : Int)) (goodFrom (before xs i) zs && decide (xs.length ≤ 30)) := by
  intro zs
  induction zs with
  | nil =>
    intro i h
    have := at_end h
    refine Ev.step (fun k => by rw [spec_ArePoints.l0]) ?_
    exact ev_neg (by omega) (ev_eq (Ev.now _) (by simp [goodFrom]; omega))
  | cons z zs ih =>
    intro i h
    obtain ⟨hi, hz, h2, hl⟩ := at_drop h
    have hr : rd_T48 xs (i : Int) = z := getD_at hz
    have ih2 := ih (i + 1) h2
    rw [before_succ hz] at ih2
    refine Ev.step (fun k => by rw [spec_ArePoints.l0]) ?_
    refine ev_pos (by omega) (ev_pos (by omega) ?_)
    rw [hr, wrap_id (x := (i : Int) + 1) (by omega) (by omega)]
    refine ev_bind0 (l1In_eq _ _ _) (ev_ite (fun e0 => ?_) (fun e0 => ev_eq (Ev.now _) ?_))
    · refine ev_bind0 (l1In_eq _ _ _) (ev_ite (fun e1 => ?_) (fun e1 => ev_eq (Ev.now _) ?_))
      · refine ev_bind0 (l1In_eq _ _ _) (ev_ite (fun e2 => ?_) (fun e2 => ev_eq (Ev.now _) ?_))
        · simp only [decide_eq_true_eq] at e0 e1 e2
          have hok : okPoint z := ⟨e0, e1, e2⟩
          by_cases hi0 : i = 0
          · refine ev_neg (by omega) (ev_eq ih2 ?_)
            subst hi0
            simp [goodFrom, before, hok]
          · obtain ⟨q, hq⟩ : ∃ q, xs[i - 1]? = some q := ⟨xs[i - 1]'(by omega), List.getElem?_eq_getElem (by omega)⟩
            have hb : before xs i = some q.f0 := by
              have := before_succ hq
              rwa [Nat.sub_add_cancel (by omega)] at this
            have hrq : rd_T48 xs ((i : Int) - 1) = q := by
              rw [show (i : Int) - 1 = ((i - 1 : Nat) : Int) by omega]
              exact getD_at hq
            rw [wrap_id (x := (i : Int) - 1) (by omega) (by omega), hrq]
            refine ev_pos (by omega) (ev_pos (by omega) (ev_pos (by omega) (ev_ite (fun e => ev_eq (Ev.now _) ?_) (fun e => ev_eq ih2 ?_))))
            · simp [goodFrom, hb, show ¬ q.f0 < z.f0 by omega]
            · simp [goodFrom, hb, hok, show q.f0 < z.f0 by omega]
        · simp only [decide_eq_true_eq] at e2
          simp [goodFrom, okPoint, e2]
      · simp only [decide_eq_true_eq] at e1
        simp [goodFrom, okPoint, e1]
    · simp only [decide_eq_true_eq] at e0
      simp [goodFrom, okPoint, e0]
theorem arePoints_spec (xs : List S48) (hn : xs.length ≤ 9223372036854775807) : Ev (fun k => spec_ArePoints.f k xs) (arePoints xs) := by
  unfold spec_ArePoints.f
  exact arePoints_spec_l0 xs hn xs 0 rfl
theorem arePoints_impl_l0 (xs : List S48) (hn : xs.length ≤ 9223372036854775807) : ∀ (zs : List S48) (i : Nat), xs.drop i = zs → Ev (fun k => impl_ArePoints.l0 k xs xs xs.length (i : Int)) (goodFrom (before xs i) zs) := by
  intro zs
  induction zs with
  | nil =>
    intro i h
    have := at_end h
    refine Ev.step (fun k => by rw [impl_ArePoints.l0]) ?_
    exact ev_neg (by omega) (ev_eq (Ev.now _) (by simp [goodFrom]))
  | cons z zs ih =>
    intro i h
    obtain ⟨hi, hz, h2, hl⟩ := at_drop h
    have hr : rd_T48 xs (i : Int) = z := getD_at hz
    have ih2 := ih (i + 1) h2
    rw [before_succ hz] at ih2
    refine Ev.step (fun k => by rw [impl_ArePoints.l0]) ?_
    refine ev_pos (by omega) (ev_pos (by omega) (ev_pos (by omega) ?_))
    rw [hr, wrap_id (x := (i : Int) + 1) (by omega) (by omega)]
    refine ev_bind0 (inRange_eq _ _ _) (ev_ite (fun e0 => ?_) (fun e0 => ev_eq (Ev.now _) ?_))
    · simp only [decide_eq_true_eq] at e0
      by_cases hi0 : i = 0
      · subst hi0
        refine ev_neg (by omega) ?_
        refine ev_bind0 (inRange_eq _ _ _) (ev_ite (fun e1 => ?_) (fun e1 => ev_eq (Ev.now _) ?_))
        · refine ev_bind0 (inRange_eq _ _ _) (ev_ite (fun e2 => ev_eq ih2 ?_) (fun e2 => ev_eq (Ev.now _) ?_))
          · simp only [decide_eq_true_eq] at e1 e2
            have hok : okPoint z := ⟨e0, e1, e2⟩
            simp [goodFrom, before, hok]
          · simp only [decide_eq_true_eq] at e2
            simp [goodFrom, okPoint, e2]
        · simp only [decide_eq_true_eq] at e1
          simp [goodFrom, okPoint, e1]
      · obtain ⟨q, hq⟩ : ∃ q, xs[i - 1]? = some q := ⟨xs[i - 1]'(by omega), List.getElem?_eq_getElem (by omega)⟩
        have hb : before xs i = some q.f0 := by
          have := before_succ hq
          rwa [Nat.sub_add_cancel (by omega)] at this
        have hrq : rd_T48 xs ((i : Int) - 1) = q := by
          rw [show (i : Int) - 1 = ((i - 1 : Nat) : Int) by omega]
          exact getD_at hq
        rw [wrap_id (x := (i : Int) - 1) (by omega) (by omega), hrq]
        refine ev_pos (by omega) (ev_pos (by omega) (ev_pos (by omega) (ev_ite (fun e => ev_eq (Ev.now _) ?_) (fun e => ?_))))
        · simp [goodFrom, hb, show ¬ q.f0 < z.f0 by omega]
        · refine ev_bind0 (inRange_eq _ _ _) (ev_ite (fun e1 => ?_) (fun e1 => ev_eq (Ev.now _) ?_))
          · refine ev_bind0 (inRange_eq _ _ _) (ev_ite (fun e2 => ev_eq ih2 ?_) (fun e2 => ev_eq (Ev.now _) ?_))
            · simp only [decide_eq_true_eq] at e1 e2
              have hok : okPoint z := ⟨e0, e1, e2⟩
              simp [goodFrom, hb, hok, show q.f0 < z.f0 by omega]
            · simp only [decide_eq_true_eq] at e2
              simp [goodFrom, okPoint, e2]
          · simp only [decide_eq_true_eq] at e1
            simp [goodFrom, okPoint, e1]
    · simp only [decide_eq_true_eq] at e0
      simp [goodFrom, okPoint, e0]
theorem arePoints_impl (xs : List S48) (hn : xs.length ≤ 9223372036854775807) : Ev (fun k => impl_ArePoints.f k xs) (arePoints xs) := by
  unfold impl_ArePoints.f
  refine ev_ite (fun e => ev_eq (Ev.now _) ?_) (fun e => ev_eq (arePoints_impl_l0 xs hn xs 0 rfl) ?_)
  · simp [arePoints, show ¬ xs.length ≤ 30 by omega]
  · simp [arePoints, before, show xs.length ≤ 30 by omega]
def upPts (k : Int) (n : Nat) : List S48 := (List.range n).map fun (i : Nat) => ⟨k + 3 * (i : Int), k + 3 * (i : Int) + 1, k + 3 * (i : Int) + 2⟩
theorem upPts_length (k : Int) (n : Nat) : (upPts k n).length = n := by simp [upPts]
theorem upPts_get (k : Int) (n i : Nat) (h : i < n) : rd_T48 (upPts k n) (i : Int) = ⟨k + 3 * (i : Int), k + 3 * (i : Int) + 1, k + 3 * (i : Int) + 2⟩ := by
  refine getD_at ?_
  simp [upPts, h]
theorem upPts_succ (k : Int) (n : Nat) : upPts k (n + 1) = ⟨k, k + 1, k + 2⟩ :: upPts (k + 3) n := by
  unfold upPts
  rw [List.range_succ_eq_map, List.map_cons, List.map_map]
  refine List.cons_eq_cons.2 ⟨by simp, List.map_congr_left fun i _ => ?_⟩
  simp only [Function.comp]
  rw [show k + 3 * ((i.succ : Nat) : Int) = k + 3 + 3 * (i : Int) by rw [Nat.succ_eq_add_one]; omega]
theorem rdT_set (xs : List S48) (i : Nat) (v : S48) (h : i < xs.length) : rd_T48 (xs.set i v) (i : Int) = v := by
  refine getD_at ?_
  simp [h]
theorem markPts_l0 : ∀ (d i : Nat) (xs : List S48) (k0 : Int), i + d = xs.length → 0 ≤ k0 → k0 + 3 * d ≤ 9223372036854775807 → xs.length ≤ 1048576 → Ev (fun k => laws_markPointS.l0 k xs k0 (i : Int)) (k0 + 3 * d, xs.take i ++ upPts k0 d) := by
  intro d
  induction d with
  | zero =>
    intro i xs k0 h _ _ _
    refine Ev.step (fun k => by rw [laws_markPointS.l0]) ?_
    refine ev_neg (by omega) (ev_eq (Ev.now _) ?_)
    rw [List.take_of_length_le (by omega)]
    simp [upPts]
  | succ d ih =>
    intro i xs k0 h h0 h1 h2
    refine Ev.step (fun k => by rw [laws_markPointS.l0]) ?_
    refine ev_pos (by omega) (ev_pos (by omega) (ev_bind0 rfl (ev_bind0 rfl ?_)))
    rw [wrap_id (x := (i : Int) + 1) (by omega) (by omega), wrap_id (x := k0 + 1) (by omega) (by omega), wrap_id (x := k0 + 1 + 1) (by omega) (by omega), wrap_id (x := k0 + 1 + 1 + 1) (by omega) (by omega), Int.toNat_natCast]
    have hrs : ∀ v, rd_T48 (xs.set i v) (i : Int) = v := fun v => rdT_set xs i v (by omega)
    simp only [hrs, List.set_set]
    refine ev_eq (ih (i + 1) _ (k0 + 1 + 1 + 1) (by rw [List.length_set]; omega) (by omega) (by omega) (by rw [List.length_set]; omega)) (Prod.ext (by show k0 + 1 + 1 + 1 + 3 * (d : Int) = k0 + 3 * ((d + 1 : Nat) : Int); omega) ?_)
    show List.take (i + 1) (xs.set i _) ++ upPts (k0 + 1 + 1 + 1) d = xs.take i ++ upPts k0 (d + 1)
    rw [take_set_at (by omega), upPts_succ, show k0 + 1 + 1 + 1 = k0 + 3 by omega, show k0 + 1 + 1 = k0 + 2 by omega, List.append_assoc]
    rfl
theorem markPts_ev (xs : List S48) (hn : xs.length ≤ 1048576) : Ev (fun k => laws_markPointS.f k xs 1) (1 + 3 * (xs.length : Int), upPts 1 xs.length) := by
  unfold laws_markPointS.f
  exact ev_eq (markPts_l0 xs.length 0 xs 1 (by omega) (by omega) (by omega) hn) (by simp)
theorem heldPts_l0 (n : Nat) (h1 : n ≤ 1048576) : ∀ (d i : Nat), i + d = n → Ev (fun k => laws_heldPointS.l0 k (upPts 1 n) (1 + 3 * (i : Int)) (i : Int)) (1 + 3 * (n : Int)) := by
  intro d
  induction d with
  | zero =>
    intro i h
    refine Ev.step (fun k => by rw [laws_heldPointS.l0]) ?_
    refine ev_neg (by rw [upPts_length]; omega) (ev_eq (Ev.now _) (by omega))
  | succ d ih =>
    intro i h
    refine Ev.step (fun k => by rw [laws_heldPointS.l0]) ?_
    rw [upPts_get 1 n i (by omega), wrap_id (x := (i : Int) + 1) (by omega) (by omega), wrap_id (x := 1 + 3 * (i : Int) + 1) (by omega) (by omega), wrap_id (x := 1 + 3 * (i : Int) + 1 + 1) (by omega) (by omega), wrap_id (x := 1 + 3 * (i : Int) + 1 + 1 + 1) (by omega) (by omega)]
    refine ev_pos (by rw [upPts_length]; omega) (ev_pos (by omega) (ev_pos rfl (ev_pos rfl (ev_pos (by show 1 + 3 * (i : Int) + 2 = 1 + 3 * (i : Int) + 1 + 1; omega) ?_))))
    have := ih (i + 1) (by omega)
    rw [show (1 : Int) + 3 * ((i + 1 : Nat) : Int) = 1 + 3 * (i : Int) + 1 + 1 + 1 by omega] at this
    exact this
theorem heldPts_ev (n : Nat) (h1 : n ≤ 1048576) : Ev (fun k => laws_heldPointS.f k (upPts 1 n) 1) (1 + 3 * (n : Int)) := by
  unfold laws_heldPointS.f
  exact heldPts_l0 n h1 n 0 (by omega)
def legal (p : S48) (who st : Int) : Bool := decide (p.f2 = 0 ∧ who ≠ p.f1 ∧ 1 ≤ st ∧ st ≤ 2 ∨ p.f2 = 2 ∧ who = p.f1 ∧ 3 ≤ st ∧ st ≤ 4)
def replied (L : List S48) (i : Nat) (p : S48) (st : Int) : List S48 × Bool := (L.set i ⟨p.f0, p.f1, st⟩, true)
def replyR (L : List S48) (id who st : Int) : List S48 → Nat → List S48 × Bool
  | [], _ => (L, false)
  | z :: zs, i => if z.f0 = id ∧ legal z who st = true then replied L i z st else replyR L id who st zs (i + 1)
theorem reply_spec_l0 (L : List S48) (id who st : Int) (hn : L.length ≤ 1048576) (ha : arePoints L = true) (hw : 1 ≤ who ∧ who ≤ 2) : ∀ (zs : List S48) (i : Nat), L.drop i = zs → Ev (fun k => spec_Reply.l0 k L id who st L (i : Int)) (replyR L id who st zs i) := by
  intro zs
  induction zs with
  | nil =>
    intro i h
    have := at_end h
    refine Ev.step (fun k => by rw [spec_Reply.l0]) ?_
    refine ev_neg (by omega) (Ev.step (fun k => by rw [spec_Reply.j1]) ?_)
    exact ev_neg (by decide) (Ev.now _)
  | cons z zs ih =>
    intro i h
    obtain ⟨hlt, hz, h2, _⟩ := at_drop h
    have hr : rd_T48 L (i : Int) = z := getD_at hz
    refine Ev.step (fun k => by rw [spec_Reply.l0]) ?_
    refine ev_pos (by omega) (Ev.bind (arePoints_spec L (by omega)) (ev_pos ha (ev_bind0 (l1In_eq _ _ _) ?_)))
    rw [decide_eq_true hw]
    refine Ev.step (fun k => by rw [spec_Reply.j1]) ?_
    rw [hr, wrap_id (x := (i : Int) + 1) (by omega) (by omega), Int.toNat_natCast]
    have hnext : ¬ (z.f0 = id ∧ (z.f2 = 0 ∧ who ≠ z.f1 ∧ 1 ≤ st ∧ st ≤ 2 ∨ z.f2 = 2 ∧ who = z.f1 ∧ 3 ≤ st ∧ st ≤ 4)) → Ev (fun k => spec_Reply.l0 k L id who st L ((i : Int) + 1)) (replyR L id who st (z :: zs) i) := by
      intro hno
      refine ev_eq (ih (i + 1) h2) ?_
      unfold replyR
      rw [if_neg (fun h => hno ⟨h.1, of_decide_eq_true h.2⟩)]
      cases zs <;> rfl
    have hset : (z.f0 = id ∧ (z.f2 = 0 ∧ who ≠ z.f1 ∧ 1 ≤ st ∧ st ≤ 2 ∨ z.f2 = 2 ∧ who = z.f1 ∧ 3 ≤ st ∧ st ≤ 4)) → Ev (fun _ => some (L.set i (⟨z.f0, z.f1, st⟩ : S48), true)) (replyR L id who st (z :: zs) i) := by
      intro hyes
      refine ev_eq (Ev.now _) ?_
      unfold replyR
      rw [if_pos ⟨hyes.1, decide_eq_true hyes.2⟩]
      rfl
    refine ev_pos rfl (ev_pos (by omega) (ev_pos (by omega) ?_))
    refine ev_ite (fun e0 => ev_ite (fun ew => ev_ite (fun e2 => ?_) (fun e2 => ev_ite (fun _ => hnext (by omega)) (fun _ => hnext (by omega)))) (fun ew => ev_bind0 (l1In_eq _ _ _) (ev_ite (fun e2 => ?_) (fun e2 => ev_ite (fun eid => ev_ite (fun est => ev_pos (by omega) (hset ?_)) (fun est => hnext ?_)) (fun eid => hnext (by omega)))))) (fun e0 => ev_ite (fun e2 => ev_ite (fun ew => ev_bind0 (l1In_eq _ _ _) (ev_ite (fun eid => ev_ite (fun est => ev_pos (by omega) (hset ?_)) (fun est => hnext ?_)) (fun eid => hnext (by omega)))) (fun ew => ev_ite (fun _ => hnext (by omega)) (fun _ => hnext (by omega)))) (fun e2 => ev_ite (fun _ => hnext (by omega)) (fun _ => hnext (by omega))))
    · omega
    · omega
    · have := of_decide_eq_true est; omega
    · have : ¬ (1 ≤ st ∧ st ≤ 2) := fun h => est (decide_eq_true h)
      omega
    · have := of_decide_eq_true est; omega
    · have : ¬ (3 ≤ st ∧ st ≤ 4) := fun h => est (decide_eq_true h)
      omega
def replyV (L : List S48) (id who st : Int) : List S48 × Bool := if arePoints L && decide (1 ≤ who ∧ who ≤ 2) then replyR L id who st L 0 else (L, false)
theorem reply_spec (L : List S48) (id who st : Int) (hn : L.length ≤ 1048576) : Ev (fun k => spec_Reply.f k L id who st) (replyV L id who st) := by
  unfold spec_Reply.f
  refine ev_bind0 rfl ?_
  rw [List.nil_append]
  refine ev_pos (by first | (simp; done) | (simp; omega)) ?_
  unfold replyV
  have hj : Ev (fun k => spec_Reply.j1 k L id who st L 0 false) (L, false) := by
    refine Ev.step (fun k => by rw [spec_Reply.j1]) ?_
    exact ev_neg (by decide) (Ev.now _)
  have hbad : (arePoints L && decide (1 ≤ who ∧ who ≤ 2)) = false → Ev (fun k => spec_Reply.l0 k L id who st L 0) (L, false) := by
    intro hb
    refine Ev.step (fun k => by rw [spec_Reply.l0]) ?_
    refine ev_ite (fun _ => Ev.bind (arePoints_spec L (by omega)) (ev_ite (fun e => ev_bind0 (l1In_eq _ _ _) ?_) (fun _ => hj))) (fun _ => hj)
    rw [e, Bool.true_and] at hb
    rw [hb]
    exact hj
  cases hc : (arePoints L && decide (1 ≤ who ∧ who ≤ 2)) with
  | false => rw [if_neg (by decide)]; exact hbad hc
  | true =>
    rw [if_pos rfl]
    have h2 := Bool.and_eq_true_iff.1 hc
    exact reply_spec_l0 L id who st hn h2.1 (of_decide_eq_true h2.2) L 0 rfl
theorem replyR_length (L : List S48) (id who st : Int) : ∀ zs i, (replyR L id who st zs i).1.length = L.length := by
  intro zs
  induction zs with
  | nil => intro i; rfl
  | cons z zs ih =>
    intro i
    unfold replyR
    split
    · simp [replied]
    · exact ih (i + 1)
theorem replyV_length (L : List S48) (id who st : Int) : (replyV L id who st).1.length = L.length := by
  unfold replyV
  split
  · exact replyR_length L id who st L 0
  · rfl
/-- The place of the first point with an Id. -/
def ptAt (id : Int) : List S48 → Nat → Int
  | [], _ => -1
  | z :: zs, i => if z.f0 = id then i else ptAt id zs (i + 1)
theorem pointAt_l0 (L : List S48) (id : Int) (hn : L.length ≤ 1048576) : ∀ (zs : List S48) (i : Nat), L.drop i = zs → Ev (fun k => impl_pointAt.l0 k L id (i : Int)) (ptAt id zs i) := by
  intro zs
  induction zs with
  | nil =>
    intro i h
    have := at_end h
    refine Ev.step (fun k => by rw [impl_pointAt.l0]) ?_
    exact ev_neg (by omega) (Ev.now _)
  | cons z zs ih =>
    intro i h
    obtain ⟨hlt, hz, h2, _⟩ := at_drop h
    have hr : rd_T48 L (i : Int) = z := getD_at hz
    refine Ev.step (fun k => by rw [impl_pointAt.l0]) ?_
    rw [hr, wrap_id (by omega) (by omega)]
    unfold ptAt
    refine ev_pos (by omega) (ev_pos (by omega) (ev_ite (fun e => ev_eq (Ev.now _) ?_) (fun e => ev_eq (ih (i + 1) h2) ?_)))
    · rw [if_pos e]
    · rw [if_neg e]
      first | done | (cases zs <;> rfl)
theorem goodFrom_above : ∀ (zs : List S48) (x : Int), goodFrom (some x) zs = true → ∀ p ∈ zs, x < p.f0 := by
  intro zs
  induction zs with
  | nil => intro x _ p hp; exact absurd hp (by simp)
  | cons z zs ih =>
    intro x h p hp
    unfold goodFrom at h
    simp only [Bool.and_eq_true, decide_eq_true_eq] at h
    rcases List.mem_cons.1 hp with rfl | hp
    · exact h.1.2
    · have := ih z.f0 h.2 p hp
      omega
theorem replyR_none (L : List S48) (id who st : Int) : ∀ (zs : List S48) (i : Nat), (∀ p ∈ zs, p.f0 ≠ id) → replyR L id who st zs i = (L, false) := by
  intro zs
  induction zs with
  | nil => intro i _; rfl
  | cons z zs ih =>
    intro i h
    unfold replyR
    rw [if_neg (fun e => h z (by simp) e.1)]
    exact ih (i + 1) (fun p hp => h p (by simp [hp]))
/-- In good points the first one with the Id decides. -/
theorem replyR_first (L : List S48) (id who st : Int) : ∀ (zs : List S48) (i : Nat) (q : Option Int), L.drop i = zs → goodFrom q zs = true → (ptAt id zs i < 0 ∧ replyR L id who st zs i = (L, false)) ∨ ∃ (j : Nat) (p : S48), ptAt id zs i = j ∧ j < L.length ∧ L[j]? = some p ∧ okPoint p ∧ replyR L id who st zs i = if legal p who st = true then replied L j p st else (L, false) := by
  intro zs
  induction zs with
  | nil => intro i q _ _; exact .inl ⟨by show (-1 : Int) < 0; decide, rfl⟩
  | cons z zs ih =>
    intro i q h hg
    obtain ⟨hlt, hz, h2, _⟩ := at_drop h
    unfold goodFrom at hg
    simp only [Bool.and_eq_true, decide_eq_true_eq] at hg
    unfold ptAt replyR
    by_cases e : z.f0 = id
    · rw [if_pos e]
      refine .inr ⟨i, z, rfl, hlt, hz, hg.1.1, ?_⟩
      by_cases hl : legal z who st = true
      · rw [if_pos ⟨e, hl⟩, if_pos hl]
      · rw [if_neg (fun h => hl h.2), if_neg hl]
        refine replyR_none L id who st zs (i + 1) fun p hp => ?_
        have := goodFrom_above zs z.f0 hg.2 p hp
        omega
    · rw [if_neg e, if_neg (fun h => e h.1)]
      exact ih (i + 1) (some z.f0) h2 hg.2
theorem reply_impl (L : List S48) (id who st : Int) (hn : L.length ≤ 1048576) : Ev (fun k => impl_Reply.f k L id who st) (replyV L id who st) := by
  unfold impl_Reply.f
  have hcl : impl_Point_35.f L = some L := by
    unfold impl_Point_35.f
    rw [Option.bind_some, if_pos (by first | (simp; done) | (simp; omega)), List.nil_append]
  have hpt : Ev (fun k => impl_pointAt.f k L id) (ptAt id L 0) := by
    unfold impl_pointAt.f
    exact pointAt_l0 L id hn L 0 rfl
  have hno : ∀ x : Int, Ev (fun k => impl_Reply.j0 k L who st L x true) (L, false) := by
    intro x
    refine Ev.step (fun k => by rw [impl_Reply.j0]) ?_
    exact ev_pos rfl (Ev.now _)
  refine ev_bind0 hcl (Ev.bind hpt (Ev.bind (arePoints_impl L (by omega)) ?_))
  cases ha : arePoints L with
  | false =>
    refine ev_neg (by decide) (ev_eq (hno _) ?_)
    unfold replyV
    rw [ha]
    rfl
  | true =>
    refine ev_pos rfl ?_
    have hg : goodFrom none L = true := by
      unfold arePoints at ha
      exact (Bool.and_eq_true_iff.1 ha).1
    rcases replyR_first L id who st L 0 none rfl hg with ⟨h1, h2⟩ | ⟨j, p, h1, h2, h3, h4, h5⟩
    · rw [decide_eq_true h1]
      refine ev_eq (hno _) ?_
      unfold replyV
      split
      · exact h2.symm
      · rfl
    · rw [h1, decide_eq_false (show ¬ (j : Int) < 0 by omega)]
      have hr : rd_T48 L (j : Int) = p := getD_at h3
      obtain ⟨_, ⟨k1, k2⟩, _⟩ := h4
      have hw : wrap64 (3 - p.f1) = 3 - p.f1 := wrap_id (by omega) (by omega)
      have hV : replyV L id who st = if (p.f2 = 0 ∧ who = 3 - p.f1 ∧ 1 ≤ st ∧ st ≤ 2 ∨ p.f2 = 2 ∧ who = p.f1 ∧ 3 ≤ st ∧ st ≤ 4) then replied L j p st else (L, false) := by
        unfold replyV
        rw [ha, Bool.true_and, h5]
        by_cases hwho : 1 ≤ who ∧ who ≤ 2
        · rw [if_pos (decide_eq_true hwho)]
          by_cases hl : legal p who st = true
          · have hl2 := of_decide_eq_true hl
            rw [if_pos hl, if_pos (by omega)]
          · rw [if_neg hl, if_neg (fun h => hl (decide_eq_true (by omega)))]
        · rw [if_neg (fun h => hwho (of_decide_eq_true h)), if_neg (by omega)]
      have hj1 : ∀ b : Bool, Ev (fun k => impl_Reply.j1 k who st L (j : Int) b p.f0 p.f1 p.f2) (if b = true ∨ (p.f2 = 2 ∧ who = p.f1 ∧ (st = 3 ∨ st = 4)) then replied L j p st else (L, false)) := by
        intro b
        refine Ev.step (fun k => by rw [impl_Reply.j1]) ?_
        rw [hr, Int.toNat_natCast]
        refine ev_ite (fun e => ev_pos (by omega) (ev_pos (by omega) (ev_eq (Ev.now _) ?_))) (fun e => ev_ite (fun e2 => ev_ite (fun ew => ev_ite (fun e3 => ev_pos (by omega) (ev_pos (by omega) (ev_eq (Ev.now _) ?_))) (fun e3 => ev_ite (fun e4 => ev_pos (by omega) (ev_pos (by omega) (ev_eq (Ev.now _) ?_))) (fun e4 => ev_eq (Ev.now _) ?_))) (fun ew => ev_eq (Ev.now _) ?_)) (fun e2 => ev_eq (Ev.now _) ?_))
        · rw [if_pos (.inl e)]; rfl
        · rw [if_pos (.inr ⟨e2, ew, .inl e3⟩)]; rfl
        · rw [if_pos (.inr ⟨e2, ew, .inr e4⟩)]; rfl
        · rw [if_neg (by rintro (h | ⟨_, _, h⟩); exact e h; omega)]
        · rw [if_neg (by rintro (h | ⟨_, h, _⟩); exact e h; exact ew h)]
        · rw [if_neg (by rintro (h | ⟨h, _⟩); exact e h; exact e2 h)]
      rw [hV]
      refine Ev.step (fun k => by rw [impl_Reply.j0]) ?_
      rw [hr, hw]
      have hsame : ∀ (P Q : Prop) [Decidable P] [Decidable Q], (P ↔ Q) → (if P then replied L j p st else (L, false)) = if Q then replied L j p st else (L, false) := by
        intro P Q _ _ h
        by_cases hp : P
        · rw [if_pos hp, if_pos (h.1 hp)]
        · rw [if_neg hp, if_neg (fun q => hp (h.2 q))]
      refine ev_neg (by decide) (ev_pos (by omega) (ev_pos (by omega) ?_))
      refine ev_ite (fun e0 => ev_ite (fun ew => ev_ite (fun e1 => ev_eq (hj1 true) (hsame _ _ ?_)) (fun e1 => ev_eq (hj1 (st == 2)) (hsame _ _ ?_))) (fun ew => ev_eq (hj1 false) (hsame _ _ ?_))) (fun e0 => ev_eq (hj1 false) (hsame _ _ ?_))
      · simp only [true_or, true_iff]; omega
      · rw [beq_iff_eq]; omega
      · simp only [Bool.false_eq_true, false_or]; omega
      · simp only [Bool.false_eq_true, false_or]; omega

theorem markPointS_l0 : ∀ (d i : Nat) (xs : List S48) (k0 : Int), i + d = xs.length → 0 ≤ k0 → k0 + 3 * d ≤ 9223372036854775807 → xs.length ≤ 1048576 → ∃ ys, Ev (fun k => laws_markPointS.l0 k xs k0 (i : Int)) (k0 + 3 * d, ys) := by
  intro d
  induction d with
  | zero =>
    intro i xs k0 h _ _ _
    refine ⟨xs, Ev.step (fun k => by rw [laws_markPointS.l0]) ?_⟩
    exact ev_neg (by omega) (ev_eq (Ev.now _) (by simp))
  | succ d ih =>
    intro i xs k0 h h0 h1 h2
    obtain ⟨ys, hys⟩ := ih (i + 1) ((((xs.set i ⟨k0, (rd_T48 xs (i : Int)).f1, (rd_T48 xs (i : Int)).f2⟩).set i ⟨(rd_T48 (xs.set i ⟨k0, (rd_T48 xs (i : Int)).f1, (rd_T48 xs (i : Int)).f2⟩) (i : Int)).f0, k0 + 1, (rd_T48 (xs.set i ⟨k0, (rd_T48 xs (i : Int)).f1, (rd_T48 xs (i : Int)).f2⟩) (i : Int)).f2⟩).set i ⟨(rd_T48 ((xs.set i ⟨k0, (rd_T48 xs (i : Int)).f1, (rd_T48 xs (i : Int)).f2⟩).set i ⟨(rd_T48 (xs.set i ⟨k0, (rd_T48 xs (i : Int)).f1, (rd_T48 xs (i : Int)).f2⟩) (i : Int)).f0, k0 + 1, (rd_T48 (xs.set i ⟨k0, (rd_T48 xs (i : Int)).f1, (rd_T48 xs (i : Int)).f2⟩) (i : Int)).f2⟩) (i : Int)).f0, (rd_T48 ((xs.set i ⟨k0, (rd_T48 xs (i : Int)).f1, (rd_T48 xs (i : Int)).f2⟩).set i ⟨(rd_T48 (xs.set i ⟨k0, (rd_T48 xs (i : Int)).f1, (rd_T48 xs (i : Int)).f2⟩) (i : Int)).f0, k0 + 1, (rd_T48 (xs.set i ⟨k0, (rd_T48 xs (i : Int)).f1, (rd_T48 xs (i : Int)).f2⟩) (i : Int)).f2⟩) (i : Int)).f1, k0 + 1 + 1⟩)) (k0 + 1 + 1 + 1) (by first | (simp; done) | (simp; omega)) (by omega) (by omega) (by simpa using h2)
    refine ⟨ys, Ev.step (fun k => by rw [laws_markPointS.l0]) ?_⟩
    refine ev_pos (by omega) (ev_pos (by omega) (ev_bind0 rfl (ev_bind0 rfl ?_)))
    rw [wrap_id (x := (i : Int) + 1) (by omega) (by omega), wrap_id (x := k0 + 1) (by omega) (by omega), wrap_id (x := k0 + 1 + 1) (by omega) (by omega), wrap_id (x := k0 + 1 + 1 + 1) (by omega) (by omega)]
    refine ev_eq hys (Prod.ext ?_ rfl)
    simp
    omega
theorem markPointS_ev (xs : List S48) (hn : xs.length ≤ 1048576) : ∃ n ys, Ev (fun k => laws_markPointS.f k xs 1) (n, ys) ∧ ¬ n < 0 := by
  unfold laws_markPointS.f
  obtain ⟨ys, h⟩ := markPointS_l0 xs.length 0 xs 1 (by omega) (by omega) (by omega) hn
  exact ⟨_, ys, h, by omega⟩
theorem FnExactReply (l0 : List (S53)) (g0 : l0.length ≤ 9223372036854775807 ∧ ∀ y ∈ l0, ((Lit.int .i64 y.f0).wf = true) ∧ ((Lit.int .i64 y.f1).wf = true) ∧ ((Lit.int .i64 y.f2).wf = true)) (a1 : Int) (g1 : (Lit.int .i64 a1).wf = true) (a2 : Int) (g2 : (Lit.int .i64 a2).wf = true) (a3 : Int) (g3 : (Lit.int .i64 a3).wf = true) : ∃ k, laws_FnExactReply.f k l0 a1 a2 a3 = some true := by
  refine Ev.rounds (g := fun k => laws_FnExactReply.f k l0 a1 a2 a3) ?_
  unfold laws_FnExactReply.f
  obtain ⟨r, hr, hle⟩ := szPointS_cases l0 g0.1
  refine ev_bind0 hr (ev_ite (fun _ => Ev.now _) (fun h => ?_))
  have hn := hle h
  have hm : (l0.map toPoint).length ≤ 1048576 := by simpa using hn
  have hs := reply_spec (l0.map toPoint) a1 a2 a3 hm
  have hp := reply_impl (l0.map toPoint) a1 a2 a3 hm
  have hl := replyV_length (l0.map toPoint) a1 a2 a3
  generalize replyV (l0.map toPoint) a1 a2 a3 = R at hs hp hl
  obtain ⟨R1, R2⟩ := R
  dsimp only at hl
  have hR : R1.length ≤ 1048576 := by omega
  refine Ev.bind (toPointS_ev l0 (by omega)) (Ev.bind hs (Ev.bind (toPointS_ev l0 (by omega)) (Ev.bind hp ?_)))
  dsimp only
  refine Ev.bind (eqPointS_same R1 (by omega)) (ev_pos rfl ?_)
  refine Ev.step (fun k => by rw [laws_FnExactReply.j0]) ?_
  refine ev_neg (by simp) (Ev.bind (toPointS_ev l0 (by omega)) (Ev.bind (eqPointS_same _ (by omega)) (ev_pos rfl (Ev.bind (markPts_ev _ hm) ?_))))
  dsimp only
  refine ev_neg (by omega) (Ev.bind (eqPointS_same R1 (by omega)) (ev_pos rfl ?_))
  refine Ev.step (fun k => by rw [laws_FnExactReply.j1]) ?_
  refine ev_neg (by simp) (Ev.bind (markPts_ev R1 hR) ?_)
  dsimp only
  refine Ev.bind (heldPts_ev R1.length hR) (ev_neg (by omega) (ev_pos rfl (Ev.bind (toPointS_ev l0 (by omega)) (Ev.bind hp ?_))))
  dsimp only
  refine Ev.bind (eqPointS_same R1 (by omega)) (ev_pos rfl ?_)
  refine Ev.step (fun k => by rw [laws_FnExactReply.j2]) ?_
  exact ev_neg (by simp) (Ev.bind (heldPts_ev R1.length hR) (ev_neg (by omega) (ev_pos rfl (Ev.now _))))

end Go.Proofs.Ytjidlgimnigllaa.Pure
