/- The plain statement of the law FnExactQuarrels, for all numbers and lists. -/
import Derived.Test.YtlbecibchkamjaaPFnExactQuarrelsx0
import Derived.Test.YtlbecibchkamjaaPFnExactQuarrelsx1
import Derived.Test.YtlbecibchkamjaaPFnExactQuarrelsx2
import Derived.Test.YtlbecibchkamjaaPFnExactQuarrelsx3
import Derived.Test.YtlbecibchkamjaaPFnExactQuarrelsx4
import Derived.Test.YtlbecibchkamjaaPFnExactQuarrelsx5
import Derived.Test.YtlbecibchkamjaaPFnExactQuarrelsx6
import Derived.Test.YtlbecibchkamjaaPFnExactQuarrelsx7
import Derived.Test.YtlbecibchkamjaaPFnExactQuarrelsx8
import Derived.Test.YtlbecibchkamjaaPFnExactQuarrelsx9
import Derived.Test.YtlbecibchkamjaaBase
set_option linter.unusedVariables false
set_option linter.unusedSimpArgs false
namespace Go.Proofs.Ytlbecibchkamjaa.Pure
open Go.RowKit Go.Proofs.Ytlbecibchkamjaa.PFnExactQuarrels Go.Proofs.YtlbecibchkamjaaW.PrintWords Go.Proofs.YtlbecibchkamjaaW.PrintLast Go.Proofs.YtlbecibchkamjaaW.PrintMore Go.Proofs.Ytlbecibchkamjaa.Base
theorem toIntS_l0 (xs : List Int) (hn : xs.length ≤ 35184372088832) : ∀ (zs : List Int) (i : Nat) (ys : List Int), xs.drop i = zs → ys.length = xs.length → ys.take i = xs.take i → Ev (fun k => laws_toIntS.l0 k xs ys (i : Int)) xs := by
  intro zs
  induction zs with
  | nil =>
    intro i ys h hl ht
    have := at_end h
    refine Ev.step (fun k => by rw [laws_toIntS.l0]) (ev_neg (by omega) ?_)
    rw [List.take_of_length_le (by omega), List.take_of_length_le (by omega)] at ht
    rw [ht]
    exact Ev.now _
  | cons z zs ih =>
    intro i ys h hl ht
    obtain ⟨hi, hz, h', _⟩ := at_drop h
    refine Ev.step (fun k => by rw [laws_toIntS.l0]) (ev_pos (by omega) (ev_pos (by omega) (ev_pos (by omega) ?_)))
    rw [wrap_id (by omega) (by omega), Int.toNat_natCast, rd_get hz]
    exact ih (i + 1) _ h' (by simp [hl]) (by rw [take_set_at (by omega), take_at hz, ht])
theorem toIntS_ev (xs : List Int) (hn : xs.length ≤ 35184372088832) : Ev (fun k => laws_toIntS.f k xs) xs := by
  unfold laws_toIntS.f
  exact ev_pos (by omega) (ev_pos (by omega) (toIntS_l0 xs hn xs 0 _ rfl (by simp) (by simp)))
theorem eqIntS_l0 (xs ys : List Int) (hl : xs.length = ys.length) (hn : xs.length ≤ 9223372036854775807) : ∀ (zs us : List Int) (i : Nat), xs.drop i = zs → ys.drop i = us → Ev (fun k => laws_eqIntS.l0 k xs ys (i : Int)) (decide (zs = us)) := by
  intro zs
  induction zs with
  | nil =>
    intro us i h hu
    have := at_end h
    refine Ev.step (fun k => by rw [laws_eqIntS.l0]) (ev_neg (by omega) ?_)
    rw [List.drop_of_length_le (by omega)] at hu
    subst hu
    exact ev_eq (Ev.now _) (by simp)
  | cons z zs ih =>
    intro us i h hu
    obtain ⟨hi, hz, h', _⟩ := at_drop h
    cases us with
    | nil => have := at_end hu; omega
    | cons u us =>
      obtain ⟨_, hzu, hu', _⟩ := at_drop hu
      refine Ev.step (fun k => by rw [laws_eqIntS.l0]) (ev_pos (by omega) (ev_pos (by omega) (ev_pos (by omega) ?_)))
      rw [wrap_id (by omega) (by omega), rd_get hz, rd_get hzu]
      refine ev_ite (fun e => ev_eq (ih us (i + 1) h' hu') (by simp [e])) (fun e => ev_eq (Ev.now _) (by simp [e]))
theorem eqIntS_ev (xs ys : List Int) (hn : xs.length ≤ 9223372036854775807) : Ev (fun k => laws_eqIntS.f k xs ys) (decide (xs = ys)) := by
  unfold laws_eqIntS.f
  refine ev_ite (fun e => eqIntS_l0 xs ys (by omega) hn xs ys 0 rfl rfl) (fun e => ev_eq (Ev.now _) ?_)
  have : xs ≠ ys := by rintro rfl; exact e rfl
  simp [this]
theorem eqIntS_same (xs : List Int) (hn : xs.length ≤ 9223372036854775807) : Ev (fun k => laws_eqIntS.f k xs xs) true := ev_eq (eqIntS_ev xs xs hn) (by simp)
theorem markIntS_l0 : ∀ (d i : Nat) (xs : List Int) (k0 : Int), i + d = xs.length → 0 ≤ k0 → k0 + d ≤ 9223372036854775807 → xs.length ≤ 9223372036854775807 → Ev (fun k => laws_markIntS.l0 k xs k0 (i : Int)) (k0 + d, xs.take i ++ upFrom k0 d) := by
  intro d
  induction d with
  | zero =>
    intro i xs k0 h _ _ _
    refine Ev.step (fun k => by rw [laws_markIntS.l0]) (ev_neg (by omega) (ev_eq (Ev.now _) ?_))
    rw [List.take_of_length_le (by omega)]
    simp [upFrom]
  | succ d ih =>
    intro i xs k0 h h0 h1 h2
    refine Ev.step (fun k => by rw [laws_markIntS.l0]) (ev_pos (by omega) (ev_pos (by omega) ?_))
    rw [wrap_id (x := (i : Int) + 1) (by omega) (by omega), wrap_id (by omega) (by omega), Int.toNat_natCast]
    refine ev_eq (ih (i + 1) _ (k0 + 1) (by first | (simp; done) | (simp; omega)) (by omega) (by omega) (by simpa using h2)) (Prod.ext (by first | (simp; done) | (simp; omega)) ?_)
    show List.take (i + 1) (xs.set i k0) ++ upFrom (k0 + 1) d = xs.take i ++ upFrom k0 (d + 1)
    rw [take_set_at (by omega), upFrom_succ]
    simp
theorem markIntS_ev (xs : List Int) (k0 : Int) (h0 : 0 ≤ k0) (h1 : k0 + xs.length ≤ 9223372036854775807) : Ev (fun k => laws_markIntS.f k xs k0) (k0 + xs.length, upFrom k0 xs.length) := by
  unfold laws_markIntS.f
  exact ev_eq (markIntS_l0 xs.length 0 xs k0 (by omega) h0 h1 (by omega)) (by simp)
theorem heldIntS_l0 (k1 : Int) (n : Nat) (h0 : 0 ≤ k1) (h1 : k1 + n ≤ 9223372036854775807) : ∀ (d i : Nat), i + d = n → Ev (fun k => laws_heldIntS.l0 k (upFrom k1 n) (k1 + i) (i : Int)) (k1 + n) := by
  intro d
  induction d with
  | zero =>
    intro i h
    refine Ev.step (fun k => by rw [laws_heldIntS.l0]) (ev_neg (by rw [upFrom_length]; omega) ?_)
    exact ev_eq (Ev.now _) (by omega)
  | succ d ih =>
    intro i h
    refine Ev.step (fun k => by rw [laws_heldIntS.l0]) (ev_pos (by rw [upFrom_length]; omega) (ev_pos (by omega) (ev_pos (rd_get (upFrom_get k1 n i (by omega))) ?_)))
    rw [wrap_id (x := (i : Int) + 1) (by omega) (by omega), wrap_id (by omega) (by omega)]
    have := ih (i + 1) (by omega)
    rw [show k1 + ((i + 1 : Nat) : Int) = k1 + i + 1 by omega] at this
    exact this
theorem heldIntS_ev (k1 : Int) (n : Nat) (h0 : 0 ≤ k1) (h1 : k1 + n ≤ 9223372036854775807) : Ev (fun k => laws_heldIntS.f k (upFrom k1 n) k1) (k1 + n) := by
  unfold laws_heldIntS.f
  have := heldIntS_l0 k1 n h0 h1 n 0 (by omega)
  simpa using this
theorem l1In_eq (x a b : Int) : spec_l1In.f x a b = some (decide (a ≤ x ∧ x ≤ b)) := by
  unfold spec_l1In.f
  by_cases h : a ≤ x <;> simp [h]
theorem inRange_eq (x a b : Int) : impl_InRange.f x a b = some (decide (a ≤ x ∧ x ≤ b)) := by
  unfold impl_InRange.f
  by_cases h : a ≤ x <;> simp [h]

/-- How many values are on the pile behind a formula's signs, from n on. -/
def shape : List Int → Nat → Option Nat
  | [], n => some n
  | s :: r, n => if 0 ≤ s ∧ s ≤ 5 then shape r (n + 1) else if s = -1 then (if 1 ≤ n then shape r n else none) else if -4 ≤ s ∧ s ≤ -2 then (if 2 ≤ n then shape r (n - 1) else none) else none
def isFormula (f : List Int) : Bool := decide (shape f 0 = some 1) && decide (f.length ≤ 24)
/-- The pile (its top first) behind a formula's signs. -/
def evalS {β : Type} (lit : Int → β) (no : β → β) (op : Int → β → β → β) : List Int → List β → Option (List β)
  | [], st => some st
  | s :: r, st => if 0 ≤ s ∧ s ≤ 5 then evalS lit no op r (lit s :: st) else if s = -1 then (match st with | x :: st2 => evalS lit no op r (no x :: st2) | [] => none) else if -4 ≤ s ∧ s ≤ -2 then (match st with | b :: a :: st2 => evalS lit no op r (op s a b :: st2) | _ => none) else none
theorem evalS_shape {β : Type} (lit : Int → β) (no : β → β) (op : Int → β → β → β) : ∀ (f : List Int) (st : List β), (evalS lit no op f st).map List.length = shape f st.length := by
  intro f
  induction f with
  | nil => intro st; rfl
  | cons s r ih =>
    intro st
    unfold evalS shape
    by_cases h0 : 0 ≤ s ∧ s ≤ 5
    · rw [if_pos h0, if_pos h0, ih]; rfl
    · rw [if_neg h0, if_neg h0]
      by_cases h1 : s = -1
      · rw [if_pos h1, if_pos h1]
        cases st with
        | nil => rfl
        | cons x st2 => rw [if_pos (by simp)]; dsimp only; rw [ih]; rfl
      · rw [if_neg h1, if_neg h1]
        by_cases h2 : -4 ≤ s ∧ s ≤ -2
        · rw [if_pos h2, if_pos h2]
          match st with
          | [] => rfl
          | [x] => rfl
          | b :: a :: st2 => rw [if_pos (by simp)]; dsimp only; rw [ih]; rfl
        · rw [if_neg h2, if_neg h2]; rfl
/-- One homomorphism's image of the other's pile. -/
theorem evalS_map {β γ : Type} {lit : Int → β} {no : β → β} {op : Int → β → β → β} {lit2 : Int → γ} {no2 : γ → γ} {op2 : Int → γ → γ → γ} (h : β → γ)
    (h0 : ∀ s, 0 ≤ s → s ≤ 5 → h (lit s) = lit2 s) (h1 : ∀ x, h (no x) = no2 (h x)) (h2 : ∀ s a b, -4 ≤ s → s ≤ -2 → h (op s a b) = op2 s (h a) (h b)) :
    ∀ (f : List Int) (st : List β), evalS lit2 no2 op2 f (st.map h) = (evalS lit no op f st).map (List.map h) := by
  intro f
  induction f with
  | nil => intro st; rfl
  | cons s r ih =>
    intro st
    unfold evalS
    by_cases k0 : 0 ≤ s ∧ s ≤ 5
    · rw [if_pos k0, if_pos k0, ← ih, List.map_cons, h0 s k0.1 k0.2]
    · rw [if_neg k0, if_neg k0]
      by_cases k1 : s = -1
      · rw [if_pos k1, if_pos k1]
        cases st with
        | nil => rfl
        | cons x st2 => simp only [List.map_cons]; rw [← ih, List.map_cons, h1]
      · rw [if_neg k1, if_neg k1]
        by_cases k2 : -4 ≤ s ∧ s ≤ -2
        · rw [if_pos k2, if_pos k2]
          match st with
          | [] => rfl
          | [x] => rfl
          | b :: a :: st2 => simp only [List.map_cons]; rw [← ih, List.map_cons, h2 s a b k2.1 k2.2]
        · rw [if_neg k2, if_neg k2]; rfl
def opB (s : Int) (a b : Bool) : Bool := if s = -2 then a && b else if s = -3 then a || b else !a || b
/-- A formula's value where v has the letters' values; false where it is no formula. -/
def valB (v : Nat → Bool) (f : List Int) : Bool := match evalS (fun s => v s.toNat) (fun x => !x) opB f [] with | some [x] => x | _ => false
def value (v : Nat → Bool) (f : List Int) : Bool := isFormula f && valB v f
theorem isFormula_spec_l0 (xs : List Int) (hn : xs.length ≤ 9223372036854775800) : ∀ (zs : List Int) (i n : Nat), xs.drop i = zs → n ≤ i → Ev (fun k => spec_IsFormula.l0 k xs (n : Int) (i : Int)) (decide (shape zs n = some 1) && decide (xs.length ≤ 24)) := by
  intro zs
  induction zs with
  | nil =>
    intro i n h _
    have := at_end h
    refine Ev.step (fun k => by rw [spec_IsFormula.l0]) ?_
    refine ev_neg (by omega) (ev_ite (fun e => ev_eq (Ev.now _) ?_) (fun e => ev_eq (Ev.now _) ?_))
    · have : n = 1 := by omega
      subst this
      simp [shape]
      omega
    · have : n ≠ 1 := by omega
      simp [shape, this]
  | cons z zs ih =>
    intro i n h hni
    obtain ⟨hi, hz, h2, _⟩ := at_drop h
    refine Ev.step (fun k => by rw [spec_IsFormula.l0]) ?_
    refine ev_pos (by omega) (ev_pos (by omega) ?_)
    rw [rd_get hz, wrap_id (x := (i : Int) + 1) (by omega) (by omega)]
    have hsh : shape (z :: zs) n = if 0 ≤ z ∧ z ≤ 5 then shape zs (n + 1) else if z = -1 then (if 1 ≤ n then shape zs n else none) else if -4 ≤ z ∧ z ≤ -2 then (if 2 ≤ n then shape zs (n - 1) else none) else none := rfl
    rw [hsh]
    refine ev_bind0 (l1In_eq _ _ _) (ev_ite (fun e0 => ?_) (fun e0 => ?_))
    · simp only [decide_eq_true_eq] at e0
      rw [if_pos e0, wrap_id (by omega) (by omega)]
      exact ih (i + 1) (n + 1) h2 (by omega)
    · simp only [decide_eq_true_eq] at e0
      rw [if_neg e0]
      have tail : z ≠ -1 ∨ ¬ 1 ≤ n → Ev (fun k => spec_IsFormula.j1 k xs (n : Int) (i : Int) false) (decide ((if z = -1 then (if 1 ≤ n then shape zs n else none) else if -4 ≤ z ∧ z ≤ -2 then (if 2 ≤ n then shape zs (n - 1) else none) else none) = some 1) && decide (xs.length ≤ 24)) := by
        intro hz1
        refine Ev.step (fun k => by rw [spec_IsFormula.j1]) ?_
        refine ev_neg (by decide) (ev_pos (by omega) (ev_pos (by omega) ?_))
        rw [rd_get hz, wrap_id (x := (i : Int) + 1) (by omega) (by omega)]
        refine ev_bind0 (l1In_eq _ _ _) (ev_ite (fun e2 => ?_) (fun e2 => ev_eq (Ev.now _) ?_))
        · simp only [decide_eq_true_eq] at e2
          rw [if_neg (show ¬ z = -1 by omega), if_pos e2]
          refine ev_ite (fun e3 => ?_) (fun e3 => ev_eq (Ev.now _) ?_)
          · rw [if_pos (by omega), wrap_id (by omega) (by omega), show (n : Int) - 1 = ((n - 1 : Nat) : Int) by omega]
            exact ih (i + 1) (n - 1) h2 (by omega)
          · rw [if_neg (by omega)]
            simp
        · simp only [decide_eq_true_eq] at e2
          rw [if_neg e2]
          rcases hz1 with hz1 | hz1
          · rw [if_neg hz1]; simp
          · rw [if_neg hz1]; simp
      refine ev_ite (fun e1 => ?_) (fun e1 => tail (.inl e1))
      by_cases hn1 : 1 ≤ n
      · rw [if_pos e1, if_pos hn1, show decide ((n : Int) ≥ 1) = true by simp; omega]
        refine Ev.step (fun k => by rw [spec_IsFormula.j1]) (ev_pos rfl ?_)
        rw [wrap_id (x := (i : Int) + 1) (by omega) (by omega)]
        exact ih (i + 1) n h2 (by omega)
      · rw [show decide ((n : Int) ≥ 1) = false by simp; omega]
        exact tail (.inr hn1)
theorem isFormula_spec (f : List Int) (hn : f.length ≤ 9223372036854775800) : Ev (fun k => spec_IsFormula.f k f) (isFormula f) := by
  unfold spec_IsFormula.f
  exact isFormula_spec_l0 f hn f 0 0 rfl (by omega)
theorem shape_bound : ∀ (f : List Int) (n m : Nat), shape f n = some m → m ≤ n + f.length := by
  intro f
  induction f with
  | nil => intro n m h; simp [shape] at h; omega
  | cons s r ih =>
    intro n m h
    unfold shape at h
    rw [List.length_cons]
    split at h
    · have := ih _ _ h; omega
    · split at h
      · split at h
        · have := ih _ _ h; omega
        · simp at h
      · split at h
        · split at h
          · have := ih _ _ h; omega
          · simp at h
        · simp at h
theorem rdOf_snoc {α : Type} (d x : α) (l : List α) (i : Int) (h : i = l.length) : rdOf d (l ++ [x]) i = x := by
  subst h
  unfold rdOf
  simp
theorem set_snoc {α : Type} (x y : α) (l : List α) (i : Int) (h : i = l.length) : (l ++ [x]).set i.toNat y = l ++ [y] := by
  subst h
  rw [Int.toNat_natCast, List.set_append_right _ _ (Nat.le_refl _)]
  simp
theorem take_snoc {α : Type} (x : α) (l : List α) (i : Int) (h : i = l.length) : (l ++ [x]).take i.toNat = l := by
  subst h
  simp
theorem opB_eq (s : Int) (a b : Bool) : spec_l10Op.f s a b = some (opB s a b) := by
  unfold spec_l10Op.f opB
  by_cases h2 : s = -2
  · cases a <;> simp [h2]
  · by_cases h3 : s = -3
    · cases a <;> simp [h3]
    · cases a <;> simp [h2, h3]
theorem value_spec_l0 (xs : List Int) (ls : List Bool) (v : Nat → Bool) (hv : ∀ k : Nat, v k = ls.getD k false) (hn : xs.length ≤ 24) (hl : ls.length ≤ 9223372036854775807) : ∀ (zs : List Int) (i : Nat) (st : List Bool), xs.drop i = zs → st.length ≤ i → shape zs st.length = some 1 →
    Ev (fun k => spec_Value.l0 k xs ls st.reverse (i : Int)) (match evalS (fun s => v s.toNat) (fun x => !x) opB zs st with | some [x] => x | _ => false) := by
  intro zs
  induction zs with
  | nil =>
    intro i st h hst hsh
    have := at_end h
    have hl1 : st.length = 1 := by simpa [shape] using hsh
    match st, hl1 with
    | [x], _ =>
      refine Ev.step (fun k => by rw [spec_Value.l0]) ?_
      exact ev_neg (by omega) (ev_pos (by simp) (ev_eq (Ev.now _) rfl))
  | cons z zs ih =>
    intro i st h hst hsh
    obtain ⟨hi, hz, h2, _⟩ := at_drop h
    have hrl : st.reverse.length = st.length := List.length_reverse
    refine Ev.step (fun k => by rw [spec_Value.l0]) ?_
    refine ev_pos (by omega) (ev_pos (by omega) ?_)
    rw [rd_get hz, wrap_id (x := (i : Int) + 1) (by omega) (by omega)]
    unfold shape at hsh
    unfold evalS
    by_cases e0 : 0 ≤ z ∧ z ≤ 5
    · rw [if_pos e0] at hsh
      rw [if_pos e0]
      have ih2 := ih (i + 1) (v z.toNat :: st) h2 (by first | (simp; done) | (simp; omega)) hsh
      rw [List.reverse_cons] at ih2
      refine ev_pos (by omega) ?_
      by_cases hlt : z < (ls.length : Int)
      · refine ev_pos hlt (ev_pos e0.1 (ev_pos (by omega) ?_))
        rw [show rdOf false ls z = v z.toNat from (hv z.toNat).symm]
        exact ih2
      · refine ev_neg hlt (ev_pos (by omega) ?_)
        have : v z.toNat = false := by
          rw [hv, List.getD_eq_getElem?_getD, List.getElem?_eq_none (by omega)]
          rfl
        rw [this] at ih2 ⊢
        exact ih2
    · rw [if_neg e0] at hsh
      rw [if_neg e0]
      by_cases e1 : z = -1
      · rw [if_pos e1] at hsh
        rw [if_pos e1]
        refine ev_neg (by omega) (ev_pos e1 ?_)
        cases st with
        | nil => simp at hsh
        | cons x st2 =>
          rw [if_pos (by simp)] at hsh
          have ih2 := ih (i + 1) ((!x) :: st2) h2 (by simp only [List.length_cons] at hst ⊢; omega) (by simpa using hsh)
          rw [List.reverse_cons] at ih2 ⊢
          simp only [List.length_cons] at hst
          rw [wrap_id (x := ((st2.reverse ++ [x]).length : Int) - 1) (by first | (simp; done) | (simp; omega)) (by first | (simp; done) | (simp; omega))]
          refine ev_pos (by first | (simp; done) | (simp; omega)) (ev_pos (by first | (simp; done) | (simp; omega)) ?_)
          rw [rdOf_snoc false x st2.reverse _ (by first | (simp; done) | (simp; omega)), set_snoc x (!x) st2.reverse _ (by first | (simp; done) | (simp; omega))]
          exact ih2
      · rw [if_neg e1] at hsh
        rw [if_neg e1]
        by_cases e2 : -4 ≤ z ∧ z ≤ -2
        · rw [if_pos e2] at hsh
          rw [if_pos e2]
          refine ev_neg (by omega) (ev_neg e1 ?_)
          match st with
          | [] => simp at hsh
          | [x] => simp at hsh
          | b :: a :: st2 =>
            rw [if_pos (by simp)] at hsh
            simp only [List.length_cons] at hst
            have ih2 := ih (i + 1) (opB z a b :: st2) h2 (by first | (simp; done) | (simp; omega)) (by simpa using hsh)
            rw [List.reverse_cons] at ih2
            dsimp only
            rw [List.reverse_cons, List.reverse_cons]
            have hlen : ((st2.reverse ++ [a] ++ [b]).length : Int) = st2.length + 2 := (by first | (simp; done) | (simp; omega))
            rw [hlen, wrap_id (x := (st2.length : Int) + 2 - 2) (by omega) (by omega), wrap_id (x := (st2.length : Int) + 2 - 1) (by omega) (by omega)]
            refine ev_pos (by omega) (ev_pos (by omega) (ev_pos (by omega) (ev_pos (by omega) ?_)))
            rw [rdOf_snoc false b (st2.reverse ++ [a]) ((st2.length : Int) + 2 - 1) (by first | (simp; done) | (simp; omega))]
            have ha : rdOf false (st2.reverse ++ [a] ++ [b]) ((st2.length : Int) + 2 - 2) = a := by
              rw [show (st2.length : Int) + 2 - 2 = ((st2.length : Nat) : Int) by omega]
              unfold rdOf
              simp
            have ht : (st2.reverse ++ [a] ++ [b]).take ((st2.length : Int) + 2 - 2).toNat = st2.reverse := by
              rw [show (st2.length : Int) + 2 - 2 = ((st2.length : Nat) : Int) by omega, Int.toNat_natCast, List.append_assoc, List.take_append_of_le_length (by simp), List.take_of_length_le (by simp)]
            rw [ha, ht]
            refine ev_bind0 (opB_eq _ _ _) (ev_pos (by omega) (ev_bind0 rfl (ev_pos (by first | (simp; done) | (simp; omega)) ?_)))
            exact ih2
        · rw [if_neg e2] at hsh
          simp at hsh
theorem value_spec (f : List Int) (ls : List Bool) (hn : f.length ≤ 9223372036854775800) (hl : ls.length ≤ 9223372036854775807) : Ev (fun k => spec_Value.f k f ls) (value (fun k => ls.getD k false) f) := by
  unfold spec_Value.f value
  refine Ev.bind (isFormula_spec f hn) (ev_ite (fun e => ?_) (fun e => ev_eq (Ev.now _) ?_))
  · rw [e, Bool.true_and]
    have e2 := e
    simp only [isFormula, Bool.and_eq_true, decide_eq_true_eq] at e2
    exact value_spec_l0 f ls _ (fun _ => rfl) e2.2 hl f 0 [] rfl (by simp) e2.1
  · simp [e]
/-- A formula's value in row m. -/
def rowVal (m : Nat) (f : List Int) : Bool := value (fun k => m.testBit k) f
theorem l11Row_all : ∀ m : Fin 64, spec_l11Row.f 7 ((m.val : Nat) : Int) = some ((List.range 6).map fun k => m.val.testBit k) := by decide +kernel
theorem l11Row_ev (m : Nat) (hm : m < 64) : Ev (fun k => spec_l11Row.f k (m : Int)) ((List.range 6).map fun k => m.testBit k) :=
  Ev.of (spec_l11Row.mono (m : Int)) (k := 7) (l11Row_all ⟨m, hm⟩)
theorem testBit_high (m k : Nat) (hm : m < 64) (hk : 6 ≤ k) : m.testBit k = false := by
  apply Nat.testBit_lt_two_pow
  calc m < 2 ^ 6 := hm
    _ ≤ 2 ^ k := Nat.pow_le_pow_right (by decide) hk
theorem row_getD (m : Nat) (hm : m < 64) (k : Nat) : ((List.range 6).map fun k => m.testBit k).getD k false = m.testBit k := by
  rw [List.getD_eq_getElem?_getD, List.getElem?_map]
  by_cases h : k < 6
  · rw [List.getElem?_range h]; rfl
  · rw [List.getElem?_eq_none (by first | (simp; done) | (simp; omega)), testBit_high m k hm (by omega)]; rfl
theorem value_row (f : List Int) (m : Nat) (hm : m < 64) (hn : f.length ≤ 9223372036854775800) : Ev (fun k => spec_Value.f k f ((List.range 6).map fun k => m.testBit k)) (rowVal m f) := by
  refine ev_eq (value_spec f _ hn (by simp)) ?_
  unfold rowVal
  congr 1
  funext k
  exact row_getD m hm k
theorem wrap_u64_ (n : Int) : IntKind.u64.wrap n = n % 18446744073709551616 := by simp [IntKind.wrap, IntKind.bits, IntKind.signed]
theorem bits_and_bv (a b : BitVec 64) : Go.bits .and .u64 (a.toNat : Int) (b.toNat : Int) = ((a &&& b).toNat : Int) := by
  show IntKind.u64.wrap ((BitVec.ofInt 64 (a.toNat : Int) &&& BitVec.ofInt 64 (b.toNat : Int)).toNat : Int) = _
  rw [BitVec.ofInt_natCast, BitVec.ofInt_natCast, BitVec.ofNat_toNat, BitVec.ofNat_toNat, BitVec.setWidth_eq, BitVec.setWidth_eq]
  have := (a &&& b).isLt
  rw [wrap_u64_]
  omega
theorem bits_or_bv (a b : BitVec 64) : Go.bits .or .u64 (a.toNat : Int) (b.toNat : Int) = ((a ||| b).toNat : Int) := by
  show IntKind.u64.wrap ((BitVec.ofInt 64 (a.toNat : Int) ||| BitVec.ofInt 64 (b.toNat : Int)).toNat : Int) = _
  rw [BitVec.ofInt_natCast, BitVec.ofInt_natCast, BitVec.ofNat_toNat, BitVec.ofNat_toNat, BitVec.setWidth_eq, BitVec.setWidth_eq]
  have := (a ||| b).isLt
  rw [wrap_u64_]
  omega
theorem bits_not_bv (a : BitVec 64) : Go.bits .xor .u64 18446744073709551615 (a.toNat : Int) = ((~~~a).toNat : Int) := by
  show IntKind.u64.wrap ((BitVec.ofInt 64 18446744073709551615 ^^^ BitVec.ofInt 64 (a.toNat : Int)).toNat : Int) = _
  have h1 : BitVec.ofInt 64 18446744073709551615 = BitVec.allOnes 64 := by decide
  rw [h1, BitVec.ofInt_natCast, BitVec.ofNat_toNat, BitVec.setWidth_eq, BitVec.allOnes_xor]
  have := (~~~a).isLt
  rw [wrap_u64_]
  omega
def letterBV (s : Int) : BitVec 64 := if s = 0 then 12297829382473034410#64 else if s = 1 then 14757395258967641292#64 else if s = 2 then 17361641481138401520#64 else if s = 3 then 18374966859414961920#64 else if s = 4 then 18446462603027742720#64 else 18446744069414584320#64
theorem letterRows_all : ∀ s : Fin 6, impl_letterRows.f 65 ((s.val : Nat) : Int) = some ((letterBV ((s.val : Nat) : Int)).toNat : Int) := by decide +kernel
theorem letterRows_ev (s : Int) (h0 : 0 ≤ s) (h5 : s ≤ 5) : Ev (fun k => impl_letterRows.f k s) ((letterBV s).toNat : Int) := by
  have := letterRows_all ⟨s.toNat, by omega⟩
  rw [show ((s.toNat : Nat) : Int) = s by omega] at this
  exact Ev.of (impl_letterRows.mono s) (k := 65) this
theorem letterBV_bit : ∀ (s : Fin 6) (m : Fin 64), (letterBV ((s.val : Nat) : Int)).getLsbD m.val = m.val.testBit s.val := by decide +kernel
def opV (s : Int) (a b : BitVec 64) : BitVec 64 := if s = -2 then a &&& b else if s = -3 then a ||| b else ~~~a ||| b
def rowsE (f : List Int) : Option (List (BitVec 64)) := evalS letterBV (fun x => ~~~x) opV f []
/-- The rows that rowsOf answers with. -/
def rowsBV (f : List Int) : BitVec 64 := match rowsE f with | some st => st.getLastD 0#64 | none => 0#64
theorem rd_snoc (x : Int) (l : List Int) (i : Int) (h : i = l.length) : rd (l ++ [x]) i = x := by
  subst h
  unfold rd
  simp
theorem iset_snoc (x y : Int) (l : List Int) (i : Int) (h : i = l.length) : (l ++ [x]).set i.toNat y = l ++ [y] := by
  subst h
  rw [Int.toNat_natCast, List.set_append_right _ _ (Nat.le_refl _)]
  simp
theorem itake_snoc (x : Int) (l : List Int) (i : Int) (h : i = l.length) : (l ++ [x]).take i.toNat = l := by
  subst h
  simp
/-- The pile as the program has it: numbers, the top last. -/
def pileV (st : List (BitVec 64)) : List Int := (st.map fun x => (x.toNat : Int)).reverse
theorem pileV_cons (x : BitVec 64) (st : List (BitVec 64)) : pileV (x :: st) = pileV st ++ [(x.toNat : Int)] := by simp [pileV]
theorem pileV_length (st : List (BitVec 64)) : (pileV st).length = st.length := by simp [pileV]
theorem pileV_first (st : List (BitVec 64)) (h : st ≠ []) : rd (pileV st) 0 = ((st.getLastD 0#64).toNat : Int) := by
  unfold rd pileV
  cases st with
  | nil => exact absurd rfl h
  | cons a st =>
    rw [Int.toNat_zero, List.getD_eq_getElem?_getD, ← List.head?_eq_getElem?, List.head?_reverse, List.getLast?_map, List.getLast?_eq_some_getLast h]
    simp [List.getLastD]
def rowsAns (o : Option (List (BitVec 64))) : Int × Bool := match o with | some st => (((st.getLastD 0#64).toNat : Int), decide (st.length = 1)) | none => (0, false)
theorem rowsOf_l0 (xs : List Int) (hn : xs.length ≤ 24) : ∀ (zs : List Int) (i : Nat) (st : List (BitVec 64)), xs.drop i = zs → st.length ≤ i → (zs = [] → st ≠ []) → (st = [] → i = 0) →
    Ev (fun k => impl_rowsOf.l0 k (pileV st) xs xs.length (i : Int)) (rowsAns (evalS letterBV (fun x => ~~~x) opV zs st)) := by
  intro zs
  induction zs with
  | nil =>
    intro i st h hst hne _
    have := at_end h
    have hp := pileV_length st
    have : 0 < st.length := List.length_pos_iff.2 (hne rfl)
    refine Ev.step (fun k => by rw [impl_rowsOf.l0]) ?_
    refine ev_neg (by omega) (ev_pos (by omega) (ev_eq (Ev.now _) ?_))
    rw [pileV_first st (hne rfl), hp]
    simp only [evalS, rowsAns]
    refine Prod.ext rfl ?_
    rw [Bool.eq_iff_iff]
    simp
    omega
  | cons z zs ih =>
    intro i st h hst hne hi0
    obtain ⟨hi, hz, h2, _⟩ := at_drop h
    have hp := pileV_length st
    refine Ev.step (fun k => by rw [impl_rowsOf.l0]) ?_
    refine ev_pos (by omega) (ev_pos (by omega) (ev_pos (by omega) ?_))
    rw [rd_get hz, wrap_id (x := (i : Int) + 1) (by omega) (by omega)]
    unfold evalS
    refine ev_bind0 (inRange_eq _ _ _) (ev_ite (fun e0 => ?_) (fun e0 => ?_))
    · simp only [decide_eq_true_eq] at e0
      rw [if_pos e0]
      refine Ev.bind (letterRows_ev z e0.1 e0.2) (ev_pos (by omega) ?_)
      have ih2 := ih (i + 1) (letterBV z :: st) h2 (by first | (simp; done) | (simp; omega)) (by simp) (by simp)
      rw [pileV_cons] at ih2
      exact ih2
    · simp only [decide_eq_true_eq] at e0
      rw [if_neg e0]
      have no2 : ¬ (-4 ≤ z ∧ z ≤ -2) ∨ ¬ 2 ≤ st.length → Ev (fun k => impl_rowsOf.j2 k (pileV st) z ((pileV st).length : Int) xs xs.length (i : Int) false) ((0, false) : Int × Bool) := by
        intro _
        refine Ev.step (fun k => by rw [impl_rowsOf.j2]) ?_
        exact ev_neg (by decide) (Ev.now _)
      by_cases e1 : z = -1
      · rw [if_pos e1]
        refine ev_pos e1 ?_
        cases st with
        | nil =>
          rw [show decide (((pileV []).length : Int) ≥ 1) = false by rfl]
          refine Ev.step (fun k => by rw [impl_rowsOf.j1]) ?_
          refine ev_neg (by decide) (ev_bind0 (inRange_eq _ _ _) (ev_neg (by first | (simp; done) | (simp; omega)) (no2 (.inr (by simp)))))
        | cons x st2 =>
          rw [show decide (((pileV (x :: st2)).length : Int) ≥ 1) = true by rw [pileV_length]; simp; omega]
          refine Ev.step (fun k => by rw [impl_rowsOf.j1]) ?_
          refine ev_pos rfl ?_
          have ih2 := ih (i + 1) ((~~~x) :: st2) h2 (by simp only [List.length_cons] at hst ⊢; omega) (by simp) (by simp)
          simp only [List.length_cons] at hst hp
          rw [pileV_cons] at ih2
          rw [hp, wrap_id (x := ((st2.length + 1 : Nat) : Int) - 1) (by omega) (by omega), wrap_id (x := (i : Int) + 1) (by omega) (by omega)]
          refine ev_pos (by omega) (ev_pos (by omega) ?_)
          rw [pileV_cons, rd_snoc _ _ _ (by rw [pileV_length]; omega), bits_not_bv, iset_snoc _ _ _ _ (by rw [pileV_length]; omega)]
          exact ih2
      · rw [if_neg e1]
        refine ev_neg e1 (Ev.step (fun k => by rw [impl_rowsOf.j1]) ?_)
        refine ev_neg (by decide) (ev_bind0 (inRange_eq _ _ _) (ev_ite (fun e2 => ?_) (fun e2 => ?_)))
        · simp only [decide_eq_true_eq] at e2
          rw [if_pos e2]
          match st with
          | [] => exact no2 (.inr (by simp))
          | [x] => exact no2 (.inr (by simp))
          | b :: a :: st2 =>
            simp only [List.length_cons] at hst hp
            dsimp only
            rw [hp, show decide (((st2.length + 1 + 1 : Nat) : Int) ≥ 2) = true by simp; omega]
            refine Ev.step (fun k => by rw [impl_rowsOf.j2]) ?_
            refine ev_pos rfl ?_
            have ih2 := ih (i + 1) (opV z a b :: st2) h2 (by first | (simp; done) | (simp; omega)) (by simp) (by simp)
            rw [pileV_cons] at ih2
            rw [hp, wrap_id (x := ((st2.length + 1 + 1 : Nat) : Int) - 2) (by omega) (by omega), wrap_id (x := ((st2.length + 1 + 1 : Nat) : Int) - 1) (by omega) (by omega), wrap_id (x := (i : Int) + 1) (by omega) (by omega)]
            refine ev_pos (by omega) (ev_pos (by omega) (ev_pos (by omega) (ev_pos (by omega) (ev_pos (by omega) ?_))))
            have hb : rd (pileV (b :: a :: st2)) (((st2.length + 1 + 1 : Nat) : Int) - 1) = (b.toNat : Int) := by
              rw [pileV_cons]
              exact rd_snoc _ _ _ (by rw [pileV_length]; first | (simp; done) | (simp; omega))
            have ha : rd (pileV (b :: a :: st2)) (((st2.length + 1 + 1 : Nat) : Int) - 2) = (a.toNat : Int) := by
              rw [pileV_cons, pileV_cons, show ((st2.length + 1 + 1 : Nat) : Int) - 2 = ((pileV st2).length : Int) by rw [pileV_length]; omega]
              unfold rd
              simp
            have ht : (pileV (b :: a :: st2)).take (((st2.length + 1 + 1 : Nat) : Int) - 1).toNat = pileV st2 ++ [(a.toNat : Int)] := by
              rw [pileV_cons, itake_snoc _ _ _ (by rw [pileV_length]; first | (simp; done) | (simp; omega)), pileV_cons]
            rw [hb, ha, ht]
            refine ev_bind0 rfl ?_
            have hlt : ((st2.length + 1 + 1 : Nat) : Int) - 2 < ((pileV st2 ++ [(a.toNat : Int)]).length : Int) := by rw [List.length_append, pileV_length]; simp; omega
            have hset : ∀ y : Int, (pileV st2 ++ [(a.toNat : Int)]).set (((st2.length + 1 + 1 : Nat) : Int) - 2).toNat y = pileV st2 ++ [y] := fun y => iset_snoc _ _ _ _ (by rw [pileV_length]; omega)
            refine ev_ite (fun e3 => ev_pos hlt ?_) (fun e3 => ev_ite (fun e4 => ev_pos hlt ?_) (fun e4 => ev_pos hlt ?_))
            · rw [bits_and_bv, hset]
              rw [show opV z a b = a &&& b by simp [opV, e3]] at ih2 ⊢
              exact ih2
            · rw [bits_or_bv, hset]
              rw [show opV z a b = a ||| b by simp [opV, e4]] at ih2 ⊢
              exact ih2
            · rw [bits_not_bv, bits_or_bv, hset]
              rw [show opV z a b = ~~~a ||| b by simp [opV, e3, e4]] at ih2 ⊢
              exact ih2
        · simp only [decide_eq_true_eq] at e2
          rw [if_neg e2]
          exact no2 (.inl e2)
def shapeI (f : List Int) : Bool := decide ((rowsE f).map List.length = some 1) && decide (f.length ≤ 24)
theorem rowsOf_impl (f : List Int) (hn : f.length ≤ 9223372036854775807) : Ev (fun k => impl_rowsOf.f k f) ((if 1 ≤ f.length ∧ f.length ≤ 24 then (rowsAns (rowsE f)).1 else 0), shapeI f) := by
  unfold impl_rowsOf.f
  refine ev_bind0 (inRange_eq _ _ _) (ev_ite (fun e => ?_) (fun e => ev_eq (Ev.now _) ?_))
  · simp only [decide_eq_true_eq] at e
    rw [if_pos (by omega)]
    refine ev_eq (rowsOf_l0 f (by omega) f 0 [] rfl (by simp) (by intro hf; subst hf; simp at e) (fun _ => rfl)) ?_
    show rowsAns (rowsE f) = _
    refine Prod.ext rfl ?_
    unfold shapeI rowsAns
    cases hE : rowsE f with
    | none => simp
    | some st => simp; omega
  · simp only [decide_eq_true_eq] at e
    rw [if_neg (by omega)]
    refine Prod.ext rfl ?_
    unfold shapeI
    by_cases h0 : f = []
    · subst h0; simp [rowsE, evalS]
    · have : 1 ≤ f.length := List.length_pos_iff.2 h0
      simp [show ¬ f.length ≤ 24 by omega]
theorem rowsAns_bv (o : Option (List (BitVec 64))) : ∃ bv : BitVec 64, (rowsAns o).1 = (bv.toNat : Int) := by
  cases o with
  | none => exact ⟨0#64, rfl⟩
  | some st => exact ⟨_, rfl⟩
theorem shapeI_eq (f : List Int) : shapeI f = isFormula f := by
  unfold shapeI isFormula rowsE
  rw [evalS_shape]
  rfl
theorem letterBV_bit2 (s : Int) (h0 : 0 ≤ s) (h5 : s ≤ 5) (m : Nat) (hm : m < 64) : (letterBV s).getLsbD m = m.testBit s.toNat := by
  have := letterBV_bit ⟨s.toNat, by omega⟩ ⟨m, hm⟩
  rw [show ((s.toNat : Nat) : Int) = s by omega] at this
  exact this
/-- Bit m of the rows of a formula is its value in row m. -/
theorem rowsBV_bit (f : List Int) (hf : isFormula f = true) (m : Nat) (hm : m < 64) : (rowsBV f).getLsbD m = valB (fun k => m.testBit k) f := by
  have hmap := evalS_map (lit := letterBV) (no := fun x => ~~~x) (op := opV) (lit2 := fun s => m.testBit s.toNat) (no2 := fun x => !x) (op2 := opB) (fun x : BitVec 64 => x.getLsbD m)
    (fun s h0 h5 => letterBV_bit2 s h0 h5 m hm) (fun x => by simp [hm]) (fun s a b h1 h2 => by
      unfold opV opB
      split
      · simp
      · split
        · simp
        · simp [hm]) f []
  simp only [isFormula, Bool.and_eq_true, decide_eq_true_eq] at hf
  have hs := evalS_shape letterBV (fun x => ~~~x) opV f []
  rw [show shape f ([] : List (BitVec 64)).length = some 1 from hf.1] at hs
  unfold rowsBV valB rowsE
  cases hE : evalS letterBV (fun x => ~~~x) opV f [] with
  | none => rw [hE] at hs; simp at hs
  | some st =>
    rw [hE] at hs hmap
    match st, hs with
    | [x], _ =>
      rw [show evalS (fun s => m.testBit s.toNat) (fun x => !x) opB f [] = some [x.getLsbD m] from hmap]
      rfl
theorem rowsOf_ev (f : List Int) (hn : f.length ≤ 9223372036854775807) : ∃ bv : BitVec 64, Ev (fun k => impl_rowsOf.f k f) ((bv.toNat : Int), isFormula f) ∧ (isFormula f = true → ∀ m, m < 64 → bv.getLsbD m = valB (fun k => m.testBit k) f) := by
  have h := rowsOf_impl f hn
  rw [shapeI_eq] at h
  by_cases hf : isFormula f = true
  · have hf2 := hf
    simp only [isFormula, Bool.and_eq_true, decide_eq_true_eq] at hf2
    have h1 : 1 ≤ f.length := by
      cases f with
      | nil => simp [shape] at hf2
      | cons a r => simp
    rw [if_pos ⟨h1, hf2.2⟩] at h
    refine ⟨rowsBV f, ev_eq h ?_, fun _ m hm => rowsBV_bit f hf m hm⟩
    unfold rowsAns rowsBV
    cases rowsE f <;> rfl
  · by_cases h1 : 1 ≤ f.length ∧ f.length ≤ 24
    · rw [if_pos h1] at h
      obtain ⟨bv, hb⟩ := rowsAns_bv (rowsE f)
      rw [hb] at h
      exact ⟨bv, h, fun h2 => absurd h2 hf⟩
    · rw [if_neg h1] at h
      exact ⟨0#64, h, fun h2 => absurd h2 hf⟩
theorem rowsOf_rows (f : List Int) (hn : f.length ≤ 9223372036854775807) : ∃ bv : BitVec 64, Ev (fun k => impl_rowsOf.f k f) ((bv.toNat : Int), isFormula f) ∧ (isFormula f = true → ∀ m, m < 64 → bv.getLsbD m = rowVal m f) := by
  obtain ⟨bv, h, hb⟩ := rowsOf_ev f hn
  refine ⟨bv, h, fun hf m hm => ?_⟩
  rw [hb hf m hm, rowVal, value, hf, Bool.true_and]
theorem rowVal_false (f : List Int) (m : Nat) (hf : isFormula f = false) : rowVal m f = false := by simp [rowVal, value, hf]
theorem bv_ext64 {a b : BitVec 64} (h : ∀ m, m < 64 → a.getLsbD m = b.getLsbD m) : a = b := BitVec.eq_of_getLsbD_eq h
theorem toIntSS_l0 (xs : List (List Int)) (hn : xs.length ≤ 11728124029610) (hi : ∀ y ∈ xs, y.length ≤ 35184372088832) : ∀ (zs : List (List Int)) (i : Nat) (ys : List (List Int)), xs.drop i = zs → ys.length = xs.length → ys.take i = xs.take i → Ev (fun k => laws_toIntSS.l0 k xs ys (i : Int)) xs := by
  intro zs
  induction zs with
  | nil =>
    intro i ys h hl ht
    have := at_end h
    refine Ev.step (fun k => by rw [laws_toIntSS.l0]) ?_
    refine ev_neg (by omega) ?_
    rw [List.take_of_length_le (by omega), List.take_of_length_le (by omega)] at ht
    rw [ht]
    exact Ev.now _
  | cons z zs ih =>
    intro i ys h hl ht
    obtain ⟨hlt, hz, h2, _⟩ := at_drop h
    have hr : rd_L1 xs (i : Int) = z := getD_at hz
    have hm : z ∈ xs := List.mem_of_getElem? hz
    refine Ev.step (fun k => by rw [laws_toIntSS.l0]) ?_
    refine ev_pos (by omega) (ev_pos (by omega) ?_)
    rw [hr]
    refine Ev.bind (toIntS_ev z (hi z hm)) (ev_pos (by omega) ?_)
    rw [wrap_id (by omega) (by omega), Int.toNat_natCast]
    exact ih (i + 1) _ h2 (by simp [hl]) (by rw [take_set_at (by omega), take_at hz, ht])
theorem toIntSS_ev (xs : List (List Int)) (hn : xs.length ≤ 11728124029610) (hi : ∀ y ∈ xs, y.length ≤ 35184372088832) : Ev (fun k => laws_toIntSS.f k xs) xs := by
  unfold laws_toIntSS.f
  exact ev_pos (by omega) (ev_pos (by omega) (toIntSS_l0 xs hn hi xs 0 _ rfl (by simp) (by simp)))
theorem eqIntSS_l0 (xs ys : List (List Int)) (hl : xs.length = ys.length) (hn : xs.length ≤ 9223372036854775807) (hi : ∀ y ∈ xs, y.length ≤ 9223372036854775807) : ∀ (zs us : List (List Int)) (i : Nat), xs.drop i = zs → ys.drop i = us → Ev (fun k => laws_eqIntSS.l0 k xs ys (i : Int)) (decide (zs = us)) := by
  intro zs
  induction zs with
  | nil =>
    intro us i h hu
    have := at_end h
    refine Ev.step (fun k => by rw [laws_eqIntSS.l0]) ?_
    rw [List.drop_of_length_le (by omega)] at hu
    subst hu
    exact ev_neg (by omega) (ev_eq (Ev.now _) (by simp))
  | cons z zs ih =>
    intro us i h hu
    obtain ⟨hlt, hz, h2, _⟩ := at_drop h
    cases us with
    | nil => have := at_end hu; omega
    | cons u us =>
      obtain ⟨_, hzu, hu2, _⟩ := at_drop hu
      have hr : rd_L1 xs (i : Int) = z := getD_at hz
      have hr2 : rd_L1 ys (i : Int) = u := getD_at hzu
      refine Ev.step (fun k => by rw [laws_eqIntSS.l0]) ?_
      refine ev_pos (by omega) (ev_pos (by omega) (ev_pos (by omega) ?_))
      rw [wrap_id (by omega) (by omega), hr, hr2]
      refine Ev.bind (eqIntS_ev z u (hi z (List.mem_of_getElem? hz))) (ev_ite (fun e => ev_eq (ih us (i + 1) h2 hu2) ?_) (fun e => ev_eq (Ev.now _) ?_))
      · simp only [decide_eq_true_eq] at e
        simp [e]
      · simp only [decide_eq_true_eq] at e
        simp [e]
theorem eqIntSS_ev (xs ys : List (List Int)) (hn : xs.length ≤ 9223372036854775807) (hi : ∀ y ∈ xs, y.length ≤ 9223372036854775807) : Ev (fun k => laws_eqIntSS.f k xs ys) (decide (xs = ys)) := by
  unfold laws_eqIntSS.f
  refine ev_ite (fun e => eqIntSS_l0 xs ys (by omega) hn hi xs ys 0 rfl rfl) (fun e => ev_eq (Ev.now _) ?_)
  have : xs ≠ ys := by rintro rfl; exact e rfl
  simp [this]
theorem eqIntSS_same (xs : List (List Int)) (hn : xs.length ≤ 9223372036854775807) (hi : ∀ y ∈ xs, y.length ≤ 9223372036854775807) : Ev (fun k => laws_eqIntSS.f k xs xs) true := ev_eq (eqIntSS_ev xs xs hn hi) (by simp)
theorem szIntS_eq (xs : List Int) (n : Int) (h0 : -9223372036854775808 + xs.length ≤ n) (h1 : n ≤ 9223372036854775807) : laws_szIntS.f xs n = some (if n - xs.length < 0 then -1 else n - xs.length) := by
  unfold laws_szIntS.f
  rw [wrap_id (by omega) (by omega)]
  split <;> rfl
theorem szIntSS_l0 (xs : List (List Int)) (hn : xs.length ≤ 9223372036854775807) (hi : ∀ y ∈ xs, y.length ≤ 9223372036854775807) : ∀ (zs : List (List Int)) (i : Nat) (n : Int), xs.drop i = zs → 0 ≤ n → n ≤ 1048576 → ∃ r, Ev (fun k => laws_szIntSS.l0 k xs n (i : Int)) r ∧ (¬ r < 0 → ∀ y ∈ zs, y.length ≤ 1048576) := by
  intro zs
  induction zs with
  | nil =>
    intro i n h _ _
    have := at_end h
    refine ⟨n, Ev.step (fun k => by rw [laws_szIntSS.l0]) ?_, by simp⟩
    exact ev_neg (by omega) (Ev.now _)
  | cons z zs ih =>
    intro i n h h0 h1
    obtain ⟨hlt, hz, h2, _⟩ := at_drop h
    have hr : rd_L1 xs (i : Int) = z := getD_at hz
    have hm := hi z (List.mem_of_getElem? hz)
    by_cases hs : n - (z.length : Int) < 0
    · refine ⟨-1, Ev.step (fun k => by rw [laws_szIntSS.l0]) ?_, by omega⟩
      refine ev_pos (by omega) (ev_pos (by omega) ?_)
      rw [hr]
      refine ev_bind0 (szIntS_eq z n (by omega) (by omega)) ?_
      rw [if_pos hs]
      exact ev_pos (by omega) (Ev.now _)
    · obtain ⟨r, hev, hall⟩ := ih (i + 1) (n - z.length) h2 (by omega) (by omega)
      refine ⟨r, Ev.step (fun k => by rw [laws_szIntSS.l0]) ?_, fun hr0 y hy => ?_⟩
      · refine ev_pos (by omega) (ev_pos (by omega) ?_)
        rw [hr]
        refine ev_bind0 (szIntS_eq z n (by omega) (by omega)) ?_
        rw [if_neg hs, wrap_id (by omega) (by omega)]
        exact ev_neg (by omega) hev
      · rcases List.mem_cons.1 hy with rfl | hy
        · omega
        · exact hall hr0 y hy
theorem szIntSS_ev (xs : List (List Int)) (hn : xs.length ≤ 9223372036854775807) (hi : ∀ y ∈ xs, y.length ≤ 9223372036854775807) : ∃ r, Ev (fun k => laws_szIntSS.f k xs 1048576) r ∧ (¬ r < 0 → xs.length ≤ 1048576 ∧ ∀ y ∈ xs, y.length ≤ 1048576) := by
  unfold laws_szIntSS.f
  by_cases hs : (1048576 : Int) - xs.length < 0
  · refine ⟨-1, ?_, by omega⟩
    rw [wrap_id (by omega) (by omega)]
    exact ev_pos hs (Ev.now _)
  · obtain ⟨r, hev, hall⟩ := szIntSS_l0 xs hn hi xs 0 (1048576 - xs.length) rfl (by omega) (by omega)
    refine ⟨r, ?_, fun h => ⟨by omega, hall h⟩⟩
    rw [wrap_id (by omega) (by omega)]
    exact ev_neg hs hev

/-- How many numbers lie in rows of rows. -/
def total : List (List Int) → Nat
  | [] => 0
  | y :: ys => y.length + total ys
/-- The rows, marked: from k on, one behind the other. -/
def markRows (k : Int) : List (List Int) → List (List Int)
  | [] => []
  | y :: ys => upFrom k y.length :: markRows (k + y.length) ys
theorem markRows_length : ∀ (ys : List (List Int)) (k : Int), (markRows k ys).length = ys.length
  | [], _ => rfl
  | _ :: ys, _ => by simp [markRows, markRows_length ys]
theorem total_le (B : Nat) : ∀ ys : List (List Int), (∀ y ∈ ys, y.length ≤ B) → total ys ≤ ys.length * B
  | [], _ => by simp [total]
  | y :: ys, h => by
    have h1 := total_le B ys (fun z hz => h z (List.mem_cons_of_mem _ hz))
    have h2 := h y (List.mem_cons_self ..)
    simp only [total, List.length_cons, Nat.succ_mul]
    omega
theorem total_small (ys : List (List Int)) (hn : ys.length ≤ 1048576) (hi : ∀ y ∈ ys, y.length ≤ 1048576) : total ys ≤ 1099511627776 := by
  have h1 := total_le 1048576 ys hi
  omega
theorem markIntSS_l0 : ∀ (zs done : List (List Int)) (i : Nat) (k0 : Int), done.length = i → 0 ≤ k0 → k0 + total zs ≤ 9223372036854775807 → (done ++ zs).length ≤ 9223372036854775806 → Ev (fun k => laws_markIntSS.l0 k (done ++ zs) k0 (i : Int)) (k0 + total zs, done ++ markRows k0 zs) := by
  intro zs
  induction zs with
  | nil =>
    intro done i k0 hl h0 h1 h2
    refine Ev.step (fun k => by rw [laws_markIntSS.l0]) (ev_neg (by first | (simp; done) | (simp; omega)) (ev_eq (Ev.now _) ?_))
    simp [total, markRows]
  | cons y ys ih =>
    intro done i k0 hl h0 h1 h2
    have hlen : (done ++ y :: ys).length = i + 1 + ys.length := by simp; omega
    simp only [total] at h1
    refine Ev.step (fun k => by rw [laws_markIntSS.l0]) (ev_pos (by rw [hlen]; omega) (ev_pos (by omega) ?_))
    have hg : (done ++ y :: ys).getD (i : Int).toNat [] = y := by
      rw [Int.toNat_natCast, List.getD_eq_getElem?_getD, List.getElem?_append_right (by omega), hl, Nat.sub_self]
      rfl
    rw [hg]
    refine Ev.bind (markIntS_ev y k0 h0 (by omega)) ?_
    have hs : (done ++ y :: ys).set (i : Int).toNat (upFrom k0 y.length) = (done ++ [upFrom k0 y.length]) ++ ys := by
      rw [Int.toNat_natCast, List.set_append_right _ _ (by omega), hl, Nat.sub_self]
      simp
    dsimp only
    rw [hs, wrap_id (x := (i : Int) + 1) (by omega) (by omega)]
    refine ev_eq (ih (done ++ [upFrom k0 y.length]) (i + 1) (k0 + y.length) (by first | (simp; done) | (simp; omega)) (by omega) (by omega) (by rw [List.length_append, List.length_cons] at h2; rw [List.length_append, List.length_append, List.length_singleton]; omega)) ?_
    simp only [total, markRows, List.append_assoc, List.singleton_append, Prod.mk.injEq, and_true]
    omega
theorem markIntSS_ev (ys : List (List Int)) (k0 : Int) (h0 : 0 ≤ k0) (h1 : k0 + total ys ≤ 9223372036854775807) (h2 : ys.length ≤ 9223372036854775806) : Ev (fun k => laws_markIntSS.f k ys k0) (k0 + total ys, markRows k0 ys) := by
  unfold laws_markIntSS.f
  simpa using markIntSS_l0 ys [] 0 k0 rfl h0 h1 (by simpa using h2)
theorem heldIntSS_l0 : ∀ (zs done : List (List Int)) (i : Nat) (k0 : Int), done.length = i → 0 ≤ k0 → k0 + total zs ≤ 9223372036854775807 → (done ++ zs).length ≤ 9223372036854775806 → Ev (fun k => laws_heldIntSS.l0 k (done ++ markRows k0 zs) k0 (i : Int)) (k0 + total zs) := by
  intro zs
  induction zs with
  | nil =>
    intro done i k0 hl h0 h1 h2
    refine Ev.step (fun k => by rw [laws_heldIntSS.l0]) (ev_neg (by simp [markRows]; omega) (ev_eq (Ev.now _) ?_))
    simp [total]
  | cons y ys ih =>
    intro done i k0 hl h0 h1 h2
    have hlen : (done ++ markRows k0 (y :: ys)).length = i + 1 + ys.length := by simp [markRows_length]; omega
    have hlen2 : (done ++ y :: ys).length = i + 1 + ys.length := by simp; omega
    simp only [total] at h1
    refine Ev.step (fun k => by rw [laws_heldIntSS.l0]) (ev_pos (by rw [hlen]; omega) (ev_pos (by omega) ?_))
    have hg : rd_L1 (done ++ markRows k0 (y :: ys)) (i : Int) = upFrom k0 y.length := getD_at (by rw [List.getElem?_append_right (by omega), hl, Nat.sub_self]; rfl)
    rw [hg]
    refine Ev.bind (heldIntS_ev k0 y.length h0 (by omega)) (ev_neg (by omega) ?_)
    rw [wrap_id (x := (i : Int) + 1) (by omega) (by omega), show done ++ markRows k0 (y :: ys) = (done ++ [upFrom k0 y.length]) ++ markRows (k0 + y.length) ys by simp [markRows]]
    refine ev_eq (ih (done ++ [upFrom k0 y.length]) (i + 1) (k0 + y.length) (by first | (simp; done) | (simp; omega)) (by omega) (by omega) (by rw [List.length_append, List.length_cons] at h2; rw [List.length_append, List.length_append, List.length_singleton]; omega)) ?_
    simp only [total]
    omega
theorem heldIntSS_ev (ys : List (List Int)) (k0 : Int) (h0 : 0 ≤ k0) (h1 : k0 + total ys ≤ 9223372036854775807) (h2 : ys.length ≤ 9223372036854775806) : Ev (fun k => laws_heldIntSS.f k (markRows k0 ys) k0) (k0 + total ys) := by
  unfold laws_heldIntSS.f
  simpa using heldIntSS_l0 ys [] 0 k0 rfl h0 h1 (by simpa using h2)
theorem cloneI_eq (xs : List Int) (h : xs.length ≤ 1048576) : slices_Clone_int_int.f xs = some xs := by
  unfold slices_Clone_int_int.f
  rw [Option.bind_some, if_pos (by simp only [List.length_nil]; omega)]
  rfl
theorem l11Ok_l0B (xs : List (List Int)) (hn : xs.length ≤ 1048577) (hi : ∀ y ∈ xs, y.length ≤ 1048576) : ∀ (zs : List (List Int)) (i : Nat), xs.drop i = zs → Ev (fun k => spec_l11Ok.l0 k xs (i : Int)) (zs.all isFormula) := by
  intro zs
  induction zs with
  | nil =>
    intro i h
    have := at_end h
    refine Ev.step (fun k => by rw [spec_l11Ok.l0]) ?_
    exact ev_neg (by omega) (Ev.now _)
  | cons z zs ih =>
    intro i h
    obtain ⟨hlt, hz, h2, _⟩ := at_drop h
    have hr : rd_L1 xs (i : Int) = z := getD_at hz
    refine Ev.step (fun k => by rw [spec_l11Ok.l0]) ?_
    refine ev_pos (by omega) (ev_pos (by omega) ?_)
    have := hi z (List.mem_of_getElem? hz)
    rw [hr, wrap_id (by omega) (by omega)]
    exact Ev.bind (isFormula_spec z (by omega)) (ev_ite (fun e => ev_eq (ih (i + 1) h2) (by simp [e])) (fun e => ev_eq (Ev.now _) (by simp [e])))
theorem l11Ok_l0 (xs : List (List Int)) (hn : xs.length ≤ 1048576) (hi : ∀ y ∈ xs, y.length ≤ 1048576) : ∀ (zs : List (List Int)) (i : Nat), xs.drop i = zs → Ev (fun k => spec_l11Ok.l0 k xs (i : Int)) (zs.all isFormula) := l11Ok_l0B xs (by omega) hi
theorem l11Ok_evB (xs : List (List Int)) (hn : xs.length ≤ 1048577) (hi : ∀ y ∈ xs, y.length ≤ 1048576) : Ev (fun k => spec_l11Ok.f k xs) (xs.all isFormula) := by
  unfold spec_l11Ok.f
  exact l11Ok_l0B xs hn hi xs 0 rfl
theorem l11Ok_ev (xs : List (List Int)) (hn : xs.length ≤ 1048576) (hi : ∀ y ∈ xs, y.length ≤ 1048576) : Ev (fun k => spec_l11Ok.f k xs) (xs.all isFormula) := l11Ok_evB xs (by omega) hi
theorem l11All_l0B (xs : List (List Int)) (m : Nat) (hm : m < 64) (hn : xs.length ≤ 1048577) (hi : ∀ y ∈ xs, y.length ≤ 1048576) : ∀ (zs : List (List Int)) (i : Nat), xs.drop i = zs → Ev (fun k => spec_l11All.l0 k xs (m : Int) (i : Int)) (zs.all (rowVal m)) := by
  intro zs
  induction zs with
  | nil =>
    intro i h
    have := at_end h
    refine Ev.step (fun k => by rw [spec_l11All.l0]) ?_
    exact ev_neg (by omega) (Ev.now _)
  | cons z zs ih =>
    intro i h
    obtain ⟨hlt, hz, h2, _⟩ := at_drop h
    have hr : rd_L1 xs (i : Int) = z := getD_at hz
    refine Ev.step (fun k => by rw [spec_l11All.l0]) ?_
    refine ev_pos (by omega) (ev_pos (by omega) ?_)
    have := hi z (List.mem_of_getElem? hz)
    rw [hr, wrap_id (by omega) (by omega)]
    exact Ev.bind (l11Row_ev m hm) (Ev.bind (value_row z m hm (by omega)) (ev_ite (fun e => ev_eq (ih (i + 1) h2) (by simp [e])) (fun e => ev_eq (Ev.now _) (by simp [e]))))
theorem l11All_l0 (xs : List (List Int)) (m : Nat) (hm : m < 64) (hn : xs.length ≤ 1048576) (hi : ∀ y ∈ xs, y.length ≤ 1048576) : ∀ (zs : List (List Int)) (i : Nat), xs.drop i = zs → Ev (fun k => spec_l11All.l0 k xs (m : Int) (i : Int)) (zs.all (rowVal m)) := l11All_l0B xs m hm (by omega) hi
theorem l11All_evB (xs : List (List Int)) (m : Nat) (hm : m < 64) (hn : xs.length ≤ 1048577) (hi : ∀ y ∈ xs, y.length ≤ 1048576) : Ev (fun k => spec_l11All.f k xs (m : Int)) (xs.all (rowVal m)) := by
  unfold spec_l11All.f
  exact l11All_l0B xs m hm hn hi xs 0 rfl
theorem l11All_ev (xs : List (List Int)) (m : Nat) (hm : m < 64) (hn : xs.length ≤ 1048576) (hi : ∀ y ∈ xs, y.length ≤ 1048576) : Ev (fun k => spec_l11All.f k xs (m : Int)) (xs.all (rowVal m)) := l11All_evB xs m hm (by omega) hi
theorem rowsOfAll_l0B (xs : List (List Int)) (hn : xs.length ≤ 1048577) (hi : ∀ y ∈ xs, y.length ≤ 1048576) : ∀ (zs : List (List Int)) (i : Nat) (a : BitVec 64) (ok : Bool), xs.drop i = zs → ∃ b : BitVec 64, Ev (fun k => impl_rowsOfAll.l0 k (a.toNat : Int) ok xs xs.length (i : Int)) ((b.toNat : Int), ok && zs.all isFormula) ∧ (zs.all isFormula = true → ∀ m, m < 64 → b.getLsbD m = (a.getLsbD m && zs.all (rowVal m))) := by
  intro zs
  induction zs with
  | nil =>
    intro i a ok h
    have := at_end h
    refine ⟨a, Ev.step (fun k => by rw [impl_rowsOfAll.l0]) ?_, by simp⟩
    exact ev_neg (by omega) (ev_eq (Ev.now _) (by simp))
  | cons z zs ih =>
    intro i a ok h
    obtain ⟨hlt, hz, h2, _⟩ := at_drop h
    have hr : rd_L1 xs (i : Int) = z := getD_at hz
    have := hi z (List.mem_of_getElem? hz)
    obtain ⟨bv, hb, hb2⟩ := rowsOf_rows z (by omega)
    obtain ⟨b, hev, hbit⟩ := ih (i + 1) (a &&& bv) (ok && isFormula z) h2
    refine ⟨b, Ev.step (fun k => by rw [impl_rowsOfAll.l0]) ?_, fun hok m hm => ?_⟩
    · refine ev_pos (by omega) (ev_pos (by omega) (ev_pos (by omega) ?_))
      rw [hr, wrap_id (by omega) (by omega)]
      refine Ev.bind hb ?_
      dsimp only
      rw [bits_and_bv]
      refine ev_ite (fun e => ev_eq ?_ (show ((b.toNat : Int), (ok && isFormula z) && zs.all isFormula) = _ by simp [Bool.and_assoc])) (fun e => ev_eq ?_ (show ((b.toNat : Int), (ok && isFormula z) && zs.all isFormula) = _ by simp [Bool.and_assoc]))
      · rw [e, Bool.true_and] at hev ⊢
        exact hev
      · have e : ok = false := by simpa using e
        rw [e, Bool.false_and] at hev ⊢
        exact hev
    · rw [List.all_cons, Bool.and_eq_true] at hok
      rw [hbit hok.2 m hm, BitVec.getLsbD_and, hb2 hok.1 m hm, List.all_cons, Bool.and_assoc]
theorem rowsOfAll_l0 (xs : List (List Int)) (hn : xs.length ≤ 1048576) (hi : ∀ y ∈ xs, y.length ≤ 1048576) : ∀ (zs : List (List Int)) (i : Nat) (a : BitVec 64) (ok : Bool), xs.drop i = zs → ∃ b : BitVec 64, Ev (fun k => impl_rowsOfAll.l0 k (a.toNat : Int) ok xs xs.length (i : Int)) ((b.toNat : Int), ok && zs.all isFormula) ∧ (zs.all isFormula = true → ∀ m, m < 64 → b.getLsbD m = (a.getLsbD m && zs.all (rowVal m))) := rowsOfAll_l0B xs (by omega) hi
theorem rowsOfAll_evB (xs : List (List Int)) (hn : xs.length ≤ 1048577) (hi : ∀ y ∈ xs, y.length ≤ 1048576) : ∃ b : BitVec 64, Ev (fun k => impl_rowsOfAll.f k xs) ((b.toNat : Int), xs.all isFormula) ∧ (xs.all isFormula = true → ∀ m, m < 64 → b.getLsbD m = xs.all (rowVal m)) := by
  obtain ⟨b, h, hb⟩ := rowsOfAll_l0B xs hn hi xs 0 (BitVec.allOnes 64) true rfl
  refine ⟨b, ?_, fun hok m hm => ?_⟩
  · unfold impl_rowsOfAll.f
    exact h
  · rw [hb hok m hm, BitVec.getLsbD_allOnes, show decide (m < 64) = true by simp [hm], Bool.true_and]
theorem rowsOfAll_ev (xs : List (List Int)) (hn : xs.length ≤ 1048576) (hi : ∀ y ∈ xs, y.length ≤ 1048576) : ∃ b : BitVec 64, Ev (fun k => impl_rowsOfAll.f k xs) ((b.toNat : Int), xs.all isFormula) ∧ (xs.all isFormula = true → ∀ m, m < 64 → b.getLsbD m = xs.all (rowVal m)) := rowsOfAll_evB xs (by omega) hi
theorem bits_andNot_bv (a b : BitVec 64) : Go.bits .andNot .u64 (a.toNat : Int) (b.toNat : Int) = ((a &&& ~~~b).toNat : Int) := by
  show IntKind.u64.wrap ((BitVec.ofInt 64 (a.toNat : Int) &&& ~~~BitVec.ofInt 64 (b.toNat : Int)).toNat : Int) = _
  rw [BitVec.ofInt_natCast, BitVec.ofInt_natCast, BitVec.ofNat_toNat, BitVec.ofNat_toNat, BitVec.setWidth_eq, BitVec.setWidth_eq]
  have := (a &&& ~~~b).isLt
  rw [wrap_u64_]
  omega
theorem canHold_l0B (xs : List (List Int)) (hn : xs.length ≤ 1048577) (hi : ∀ y ∈ xs, y.length ≤ 1048576) : ∀ (d m : Nat), m + d = 64 → Ev (fun k => spec_CanHold.l0 k xs (m : Int)) (xs.all isFormula && (List.range d).any (fun j => xs.all (rowVal (m + j)))) := by
  intro d
  induction d with
  | zero =>
    intro m h
    refine Ev.step (fun k => by rw [spec_CanHold.l0]) ?_
    refine ev_neg (by omega) (Ev.step (fun k => by rw [spec_CanHold.j1]) (ev_neg (by decide) (ev_eq (Ev.now _) (by simp))))
  | succ d ih =>
    intro m h
    refine Ev.step (fun k => by rw [spec_CanHold.l0]) ?_
    refine ev_pos (by omega) (Ev.bind (l11Ok_evB xs hn hi) (Ev.step (fun k => by rw [spec_CanHold.j1]) ?_))
    rw [wrap_id (by omega) (by omega), List.range_succ_eq_map, List.any_cons, List.any_map]
    have e2 : ((fun j => xs.all (rowVal (m + j))) ∘ Nat.succ) = fun j => xs.all (rowVal (m + 1 + j)) := by
      funext j
      simp only [Function.comp]
      rw [show m + j.succ = m + 1 + j by omega]
    rw [e2]
    refine ev_ite (fun e => Ev.bind (l11All_evB xs m (by omega) hn hi) (ev_ite (fun e3 => ev_eq (Ev.now _) ?_) (fun e3 => ev_eq (ih (m + 1) (by omega)) ?_))) (fun e => ev_eq (Ev.now _) ?_)
    · rw [e, show m + 0 = m from rfl, e3]; rfl
    · rw [show m + 0 = m from rfl, show xs.all (rowVal m) = false by simpa using e3, Bool.false_or]
    · rw [show xs.all isFormula = false by simpa using e, Bool.false_and]
theorem canHold_l0 (xs : List (List Int)) (hn : xs.length ≤ 1048576) (hi : ∀ y ∈ xs, y.length ≤ 1048576) : ∀ (d m : Nat), m + d = 64 → Ev (fun k => spec_CanHold.l0 k xs (m : Int)) (xs.all isFormula && (List.range d).any (fun j => xs.all (rowVal (m + j)))) := canHold_l0B xs (by omega) hi
theorem canHold_specB (xs : List (List Int)) (hn : xs.length ≤ 1048577) (hi : ∀ y ∈ xs, y.length ≤ 1048576) : Ev (fun k => spec_CanHold.f k xs) (xs.all isFormula && (List.range 64).any (fun j => xs.all (rowVal j))) := by
  unfold spec_CanHold.f
  refine ev_eq (canHold_l0B xs hn hi 64 0 rfl) ?_
  simp
theorem canHold_spec (xs : List (List Int)) (hn : xs.length ≤ 1048576) (hi : ∀ y ∈ xs, y.length ≤ 1048576) : Ev (fun k => spec_CanHold.f k xs) (xs.all isFormula && (List.range 64).any (fun j => xs.all (rowVal j))) := canHold_specB xs (by omega) hi
theorem canHold_implB (xs : List (List Int)) (hn : xs.length ≤ 1048577) (hi : ∀ y ∈ xs, y.length ≤ 1048576) : Ev (fun k => impl_CanHold.f k xs) (xs.all isFormula && (List.range 64).any (fun j => xs.all (rowVal j))) := by
  obtain ⟨b, h, hb⟩ := rowsOfAll_evB xs hn hi
  unfold impl_CanHold.f
  refine Ev.bind h (ev_ite (fun e => ev_eq (Ev.now _) ?_) (fun e => ev_eq (Ev.now _) ?_))
  · dsimp only at e
    dsimp only
    rw [e, Bool.true_and, Bool.eq_iff_iff, bne_iff_ne, List.any_eq_true]
    constructor
    · intro h0
      have hz : b ≠ 0#64 := by rintro rfl; exact h0 rfl
      refine Classical.byContradiction fun hno => hz (bv_ext64 fun m hm => ?_)
      rw [BitVec.getLsbD_zero]
      cases hbm : b.getLsbD m with
      | false => rfl
      | true => exact absurd ⟨m, List.mem_range.2 hm, by rw [← hb e m hm, hbm]⟩ hno
    · rintro ⟨m, hm, hall⟩ h0
      have hz : b = 0#64 := BitVec.eq_of_toNat_eq (by simpa using h0)
      have := hb e m (List.mem_range.1 hm)
      rw [hall, hz] at this
      simp at this
  · dsimp only at e
    rw [show xs.all isFormula = false by simpa using e, Bool.false_and]
theorem canHold_impl (xs : List (List Int)) (hn : xs.length ≤ 1048576) (hi : ∀ y ∈ xs, y.length ≤ 1048576) : Ev (fun k => impl_CanHold.f k xs) (xs.all isFormula && (List.range 64).any (fun j => xs.all (rowVal j))) := canHold_implB xs (by omega) hi
theorem shape_app : ∀ (f g : List Int) (n : Nat), shape (f ++ g) n = (shape f n).bind (shape g) := by
  intro f
  induction f with
  | nil => intro g n; rfl
  | cons s r ih =>
    intro g n
    rw [List.cons_append]
    unfold shape
    split
    · exact ih g _
    · split
      · split
        · exact ih g _
        · rfl
      · split
        · split
          · exact ih g _
          · rfl
        · rfl
theorem isFormula_not {f : List Int} (h : isFormula (f ++ [-1]) = true) : isFormula f = true := by
  unfold isFormula at h ⊢
  rw [Bool.and_eq_true, decide_eq_true_eq, decide_eq_true_eq, shape_app] at h
  obtain ⟨h1, h2⟩ := h
  rw [List.length_append, List.length_singleton] at h2
  rw [Bool.and_eq_true, decide_eq_true_eq, decide_eq_true_eq]
  refine ⟨?_, by omega⟩
  cases hs : shape f 0 with
  | none => rw [hs] at h1; exact absurd h1 (by simp)
  | some n =>
    rw [hs, Option.bind_some] at h1
    simp only [shape] at h1
    rw [if_neg (by omega), if_pos trivial] at h1
    split at h1
    · exact h1
    · exact absurd h1 (by simp)
def notOf (f : List Int) : List Int := if isFormula (f ++ [-1]) then f ++ [-1] else []
def joinOf (f g : List Int) (o : Int) : List Int := if isFormula f = true ∧ isFormula g = true ∧ (-4 ≤ o ∧ o ≤ -2) ∧ isFormula (f ++ g ++ [o]) = true then f ++ g ++ [o] else []
theorem isFormulaI_ev (f : List Int) (hn : f.length ≤ 9223372036854775807) : Ev (fun k => impl_IsFormula.f k f) (isFormula f) := by
  obtain ⟨bv, hr, _⟩ := rowsOf_ev f hn
  unfold impl_IsFormula.f
  exact Ev.bind hr (Ev.now _)
theorem equalInts_l0 (xs ys : List Int) (hl : xs.length = ys.length) (hn : xs.length ≤ 9223372036854775807) : ∀ (zs us : List Int) (i : Nat), xs.drop i = zs → ys.drop i = us → Ev (fun k => spec_EqualInts.l0 k xs ys (i : Int)) (decide (zs = us)) := by
  intro zs
  induction zs with
  | nil =>
    intro us i h hu
    have := at_end h
    refine Ev.step (fun k => by rw [spec_EqualInts.l0]) ?_
    rw [List.drop_of_length_le (by omega)] at hu
    subst hu
    exact ev_neg (by omega) (ev_eq (Ev.now _) (by simp))
  | cons z zs ih =>
    intro us i h hu
    obtain ⟨hlt, hz, h2, _⟩ := at_drop h
    cases us with
    | nil => have := at_end hu; omega
    | cons u us =>
      obtain ⟨_, hzu, hu2, _⟩ := at_drop hu
      refine Ev.step (fun k => by rw [spec_EqualInts.l0]) ?_
      refine ev_pos (by omega) (ev_pos (by omega) (ev_pos (by omega) ?_))
      rw [wrap_id (by omega) (by omega), rd_get hz, rd_get hzu]
      refine ev_ite (fun e => ev_eq (ih us (i + 1) h2 hu2) ?_) (fun e => ev_eq (Ev.now _) ?_)
      · simp [e]
      · simp [e]
theorem equalInts_ev (xs ys : List Int) (hn : xs.length ≤ 9223372036854775807) : Ev (fun k => spec_EqualInts.f k xs ys) (decide (xs = ys)) := by
  unfold spec_EqualInts.f
  refine ev_ite (fun e => equalInts_l0 xs ys (by omega) hn xs ys 0 rfl rfl) (fun e => ev_eq (Ev.now _) ?_)
  have : xs ≠ ys := by rintro rfl; exact e rfl
  simp [this]
/-- The place of the first row that is f. -/
def rowAt (f : List Int) : List (List Int) → Nat → Int
  | [], _ => -1
  | r :: rs, i => if r = f then i else rowAt f rs (i + 1)
theorem rowAt_bound (f : List Int) : ∀ (rs : List (List Int)) (i : Nat), rowAt f rs i = -1 ∨ (i : Int) ≤ rowAt f rs i ∧ rowAt f rs i < i + rs.length := by
  intro rs
  induction rs with
  | nil => intro i; exact .inl rfl
  | cons r rs ih =>
    intro i
    unfold rowAt
    split
    · right; simp; omega
    · rcases ih (i + 1) with h | h
      · exact .inl h
      · right; simp only [List.length_cons]; omega
theorem l12Find_l0 (xs : List (List Int)) (f : List Int) (hn : xs.length ≤ 9223372036854775807) (hi : ∀ y ∈ xs, y.length ≤ 9223372036854775807) : ∀ (zs : List (List Int)) (i : Nat), xs.drop i = zs → Ev (fun k => spec_l12Find.l0 k xs f (i : Int)) (rowAt f zs i) := by
  intro zs
  induction zs with
  | nil =>
    intro i h
    have := at_end h
    refine Ev.step (fun k => by rw [spec_l12Find.l0]) ?_
    exact ev_neg (by omega) (Ev.now _)
  | cons z zs ih =>
    intro i h
    obtain ⟨hlt, hz, h2, _⟩ := at_drop h
    have hr : rd_L1 xs (i : Int) = z := getD_at hz
    refine Ev.step (fun k => by rw [spec_l12Find.l0]) ?_
    rw [hr, wrap_id (by omega) (by omega)]
    refine ev_pos (by omega) (ev_pos (by omega) (Ev.bind (equalInts_ev z f (hi z (List.mem_of_getElem? hz))) ?_))
    unfold rowAt
    by_cases e : z = f
    · rw [if_pos e]
      exact ev_pos (by simp [e]) (Ev.now _)
    · rw [if_neg e]
      exact ev_neg (by simp [e]) (ih (i + 1) h2)
theorem l12Find_ev (xs : List (List Int)) (f : List Int) (hn : xs.length ≤ 9223372036854775807) (hi : ∀ y ∈ xs, y.length ≤ 9223372036854775807) : Ev (fun k => spec_l12Find.f k xs f) (rowAt f xs 0) := by
  unfold spec_l12Find.f
  exact l12Find_l0 xs f hn hi xs 0 rfl
theorem rowsAlike_l0 (xs ys : List Int) (hl : xs.length = ys.length) (hn : xs.length ≤ 9223372036854775807) : ∀ (zs us : List Int) (i : Nat), xs.drop i = zs → ys.drop i = us → Ev (fun k => rowsAlike.l0 k xs ys xs.length (i : Int)) (decide (zs = us)) := by
  intro zs
  induction zs with
  | nil =>
    intro us i h hu
    have := at_end h
    refine Ev.step (fun k => by rw [rowsAlike.l0]) ?_
    rw [List.drop_of_length_le (by omega)] at hu
    subst hu
    exact ev_neg (by omega) (ev_eq (Ev.now _) (by simp))
  | cons z zs ih =>
    intro us i h hu
    obtain ⟨hlt, hz, h2, _⟩ := at_drop h
    cases us with
    | nil => have := at_end hu; omega
    | cons u us =>
      obtain ⟨_, hzu, hu2, _⟩ := at_drop hu
      refine Ev.step (fun k => by rw [rowsAlike.l0]) ?_
      refine ev_pos (by omega) (ev_pos (by omega) (ev_pos (by omega) (ev_pos (by omega) ?_)))
      rw [wrap_id (by omega) (by omega), rd_get hz, rd_get hzu]
      refine ev_ite (fun e => ev_eq (ih us (i + 1) h2 hu2) ?_) (fun e => ev_eq (Ev.now _) ?_)
      · simp [e]
      · simp [e]
theorem rowsAlike_ev (xs ys : List Int) (hn : xs.length ≤ 9223372036854775807) : Ev (fun k => rowsAlike.f k xs ys) (decide (xs = ys)) := by
  unfold rowsAlike.f
  refine ev_ite (fun e => rowsAlike_l0 xs ys (by omega) hn xs ys 0 rfl rfl) (fun e => ev_eq (Ev.now _) ?_)
  have : xs ≠ ys := by rintro rfl; exact e rfl
  simp [this]
theorem formulaAt_l0 (xs : List (List Int)) (f : List Int) (hn : xs.length ≤ 9223372036854775807) (hi : ∀ y ∈ xs, y.length ≤ 9223372036854775807) : ∀ (zs : List (List Int)) (i : Nat), xs.drop i = zs → Ev (fun k => impl_formulaAt.l0 k xs f (i : Int)) (rowAt f zs i) := by
  intro zs
  induction zs with
  | nil =>
    intro i h
    have := at_end h
    refine Ev.step (fun k => by rw [impl_formulaAt.l0]) ?_
    exact ev_neg (by omega) (Ev.now _)
  | cons z zs ih =>
    intro i h
    obtain ⟨hlt, hz, h2, _⟩ := at_drop h
    have hr : rd_L1 xs (i : Int) = z := getD_at hz
    refine Ev.step (fun k => by rw [impl_formulaAt.l0]) ?_
    rw [hr, wrap_id (by omega) (by omega)]
    refine ev_pos (by omega) (ev_pos (by omega) (Ev.bind (rowsAlike_ev z f (hi z (List.mem_of_getElem? hz))) ?_))
    unfold rowAt
    by_cases e : z = f
    · rw [if_pos e]
      exact ev_pos (by simp [e]) (Ev.now _)
    · rw [if_neg e]
      exact ev_neg (by simp [e]) (ih (i + 1) h2)
theorem formulaAt_ev (xs : List (List Int)) (f : List Int) (hn : xs.length ≤ 9223372036854775807) (hi : ∀ y ∈ xs, y.length ≤ 9223372036854775807) : Ev (fun k => impl_formulaAt.f k xs f) (rowAt f xs 0) := by
  unfold impl_formulaAt.f
  exact formulaAt_l0 xs f hn hi xs 0 rfl
def canHoldB (xs : List (List Int)) : Bool := xs.all isFormula && (List.range 64).any (fun j => xs.all (rowVal j))
/-- No row among the first ones is the row at i. -/
def freshAt (xs : List (List Int)) (i : Nat) : Bool := decide (rowAt (xs.getD i []) (xs.take i) 0 < 0)
def isStore (xs : List (List Int)) : Bool := (List.range xs.length).all (freshAt xs) && (decide (xs.length ≤ 12) && canHoldB xs)
theorem isStore_l0B (xs : List (List Int)) (hn : xs.length ≤ 1048577) (hi : ∀ y ∈ xs, y.length ≤ 1048576) : ∀ (d i : Nat), i + d = xs.length → Ev (fun k => spec_IsStore.l0 k xs (i : Int)) ((List.range d).all (fun j => freshAt xs (i + j)) && (decide (xs.length ≤ 12) && canHoldB xs)) := by
  intro d
  induction d with
  | zero =>
    intro i h
    refine Ev.step (fun k => by rw [spec_IsStore.l0]) ?_
    refine ev_neg (by omega) (ev_ite (fun e => Ev.bind (canHold_specB xs hn hi) (ev_eq (Ev.now _) ?_)) (fun e => ev_eq (Ev.now _) ?_))
    · rw [show decide (xs.length ≤ 12) = true by simp; omega]
      simp [canHoldB]
    · rw [show decide (xs.length ≤ 12) = false by simp; omega]
      simp
  | succ d ih =>
    intro i h
    refine Ev.step (fun k => by rw [spec_IsStore.l0]) ?_
    have hrd : rd_L1 xs (i : Int) = xs.getD i [] := by unfold rd_L1; rw [Int.toNat_natCast]
    have hl : (xs.take i).length ≤ 9223372036854775807 := by rw [List.length_take]; omega
    have hli : ∀ y ∈ xs.take i, y.length ≤ 9223372036854775807 := fun y hy => Nat.le_trans (hi y (List.mem_of_mem_take hy)) (by decide)
    rw [hrd, Int.toNat_natCast, wrap_id (by omega) (by omega), List.range_succ_eq_map, List.all_cons, List.all_map]
    have e2 : ((fun j => freshAt xs (i + j)) ∘ Nat.succ) = fun j => freshAt xs (i + 1 + j) := by
      funext j
      simp only [Function.comp]
      rw [show i + j.succ = i + 1 + j by omega]
    rw [e2, show i + 0 = i from rfl]
    refine ev_pos (by omega) (ev_pos (by omega) (ev_pos (by omega) (Ev.bind (l12Find_ev _ _ hl hli) (ev_ite (fun e => ev_eq (Ev.now _) ?_) (fun e => ev_eq (ih (i + 1) (by omega)) ?_)))))
    · rw [show freshAt xs i = false from decide_eq_false (by omega)]
      simp
    · rw [show freshAt xs i = true from decide_eq_true (by omega), Bool.true_and]
theorem isStore_l0 (xs : List (List Int)) (hn : xs.length ≤ 1048576) (hi : ∀ y ∈ xs, y.length ≤ 1048576) : ∀ (d i : Nat), i + d = xs.length → Ev (fun k => spec_IsStore.l0 k xs (i : Int)) ((List.range d).all (fun j => freshAt xs (i + j)) && (decide (xs.length ≤ 12) && canHoldB xs)) := isStore_l0B xs (by omega) hi
theorem isStore_specB (xs : List (List Int)) (hn : xs.length ≤ 1048577) (hi : ∀ y ∈ xs, y.length ≤ 1048576) : Ev (fun k => spec_IsStore.f k xs) (isStore xs) := by
  unfold spec_IsStore.f isStore
  refine ev_eq (isStore_l0B xs hn hi xs.length 0 (by omega)) ?_
  simp
theorem isStore_spec (xs : List (List Int)) (hn : xs.length ≤ 1048576) (hi : ∀ y ∈ xs, y.length ≤ 1048576) : Ev (fun k => spec_IsStore.f k xs) (isStore xs) := isStore_specB xs (by omega) hi
theorem isStore_len {xs : List (List Int)} (h : isStore xs = true) : xs.length ≤ 12 ∧ canHoldB xs = true := by
  unfold isStore at h
  simp only [Bool.and_eq_true, decide_eq_true_eq] at h
  exact h.2
theorem isStoreI_l0B (xs : List (List Int)) (hn : xs.length ≤ 1048577) (hi : ∀ y ∈ xs, y.length ≤ 1048576) : ∀ (d i : Nat), i + d = xs.length → Ev (fun k => impl_IsStore.l0 k xs xs xs.length (i : Int)) ((List.range d).all (fun j => freshAt xs (i + j))) := by
  intro d
  induction d with
  | zero =>
    intro i h
    refine Ev.step (fun k => by rw [impl_IsStore.l0]) ?_
    exact ev_neg (by omega) (ev_eq (Ev.now _) (by simp))
  | succ d ih =>
    intro i h
    refine Ev.step (fun k => by rw [impl_IsStore.l0]) ?_
    have hrd : rd_L1 xs (i : Int) = xs.getD i [] := by unfold rd_L1; rw [Int.toNat_natCast]
    have hl : (xs.take i).length ≤ 9223372036854775807 := by rw [List.length_take]; omega
    have hli : ∀ y ∈ xs.take i, y.length ≤ 9223372036854775807 := fun y hy => Nat.le_trans (hi y (List.mem_of_mem_take hy)) (by decide)
    rw [hrd, Int.toNat_natCast, wrap_id (by omega) (by omega), List.range_succ_eq_map, List.all_cons, List.all_map]
    have e2 : ((fun j => freshAt xs (i + j)) ∘ Nat.succ) = fun j => freshAt xs (i + 1 + j) := by
      funext j
      simp only [Function.comp]
      rw [show i + j.succ = i + 1 + j by omega]
    rw [e2, show i + 0 = i from rfl]
    refine ev_pos (by omega) (ev_pos (by omega) (ev_pos (by omega) (ev_pos (by omega) (Ev.bind (formulaAt_ev _ _ hl hli) (ev_ite (fun e => ev_eq (Ev.now _) ?_) (fun e => ev_eq (ih (i + 1) (by omega)) ?_))))))
    · rw [show freshAt xs i = false from decide_eq_false (by omega)]
      simp
    · rw [show freshAt xs i = true from decide_eq_true (by omega), Bool.true_and]
theorem isStoreI_l0 (xs : List (List Int)) (hn : xs.length ≤ 1048576) (hi : ∀ y ∈ xs, y.length ≤ 1048576) : ∀ (d i : Nat), i + d = xs.length → Ev (fun k => impl_IsStore.l0 k xs xs xs.length (i : Int)) ((List.range d).all (fun j => freshAt xs (i + j))) := isStoreI_l0B xs (by omega) hi
theorem isStore_implB (xs : List (List Int)) (hn : xs.length ≤ 1048577) (hi : ∀ y ∈ xs, y.length ≤ 1048576) : Ev (fun k => impl_IsStore.f k xs) (isStore xs) := by
  have hj : ∀ b : Bool, Ev (fun k => impl_IsStore.j0 k xs b) (!b && (List.range xs.length).all (freshAt xs)) := by
    intro b
    refine Ev.step (fun k => by rw [impl_IsStore.j0]) ?_
    cases b with
    | true => exact ev_pos rfl (ev_eq (Ev.now _) rfl)
    | false =>
      refine ev_neg (by decide) (ev_eq (isStoreI_l0B xs hn hi xs.length 0 (by omega)) ?_)
      simp
  unfold impl_IsStore.f isStore
  refine ev_ite (fun e => ev_eq (hj true) ?_) (fun e => Ev.bind (canHold_implB xs hn hi) (ev_eq (hj _) ?_))
  · rw [show decide (xs.length ≤ 12) = false by simp; omega]
    simp
  · rw [show decide (xs.length ≤ 12) = true by simp; omega, Bool.true_and, Bool.not_not, Bool.and_comm]
    rfl
theorem isStore_impl (xs : List (List Int)) (hn : xs.length ≤ 1048576) (hi : ∀ y ∈ xs, y.length ≤ 1048576) : Ev (fun k => impl_IsStore.f k xs) (isStore xs) := isStore_implB xs (by omega) hi

def quarrels (xs : List (List Int)) (f : List Int) : List (List Int) := if isStore xs && isFormula f then xs.filter (fun x => !canHoldB [x, f]) else []
theorem quarrels_size (xs : List (List Int)) (f : List Int) (hn : xs.length ≤ 1048576) (hi : ∀ y ∈ xs, y.length ≤ 1048576) : (quarrels xs f).length ≤ 1048576 ∧ ∀ y ∈ quarrels xs f, y.length ≤ 1048576 := by
  unfold quarrels
  split
  · exact ⟨Nat.le_trans (List.length_filter_le _ _) hn, fun y hy => hi y (List.mem_filter.1 hy).1⟩
  · exact ⟨by simp, fun y hy => absurd hy (by simp)⟩
theorem pair_in {x f : List Int} (hx : x.length ≤ 1048576) (hf : f.length ≤ 1048576) : ∀ y ∈ [x, f], y.length ≤ 1048576 := by
  intro y hy
  rcases List.mem_cons.1 hy with rfl | hy
  · exact hx
  · rcases List.mem_cons.1 hy with rfl | hy
    · exact hf
    · exact absurd hy (by simp)
theorem quarrelsS_l0 (xs : List (List Int)) (f : List Int) (hf : f.length ≤ 1048576) (hn : xs.length ≤ 1048576) (hi : ∀ y ∈ xs, y.length ≤ 1048576) (hs : isStore xs = true) (hg : isFormula f = true) : ∀ (zs : List (List Int)) (i : Nat) (acc : List (List Int)), xs.drop i = zs → acc.length ≤ i → Ev (fun k => spec_Quarrels.l0 k xs f acc (i : Int)) (acc ++ zs.filter (fun x => !canHoldB [x, f])) := by
  intro zs
  induction zs with
  | nil =>
    intro i acc h hl
    have := at_end h
    refine Ev.step (fun k => by rw [spec_Quarrels.l0]) ?_
    refine ev_neg (by omega) ?_
    refine Ev.step (fun k => by rw [spec_Quarrels.j1]) ?_
    exact ev_neg (by decide) (ev_eq (Ev.now _) (by simp))
  | cons z zs ih =>
    intro i acc h hl
    obtain ⟨hlt, hz, h2, _⟩ := at_drop h
    have hr : rd_L1 xs (i : Int) = z := getD_at hz
    have hm := hi z (List.mem_of_getElem? hz)
    have hh := isStore_spec xs hn hi
    rw [hs] at hh
    have hh2 := isFormula_spec f (by omega)
    rw [hg] at hh2
    refine Ev.step (fun k => by rw [spec_Quarrels.l0]) ?_
    refine ev_pos (by omega) (Ev.bind hh (ev_pos rfl (Ev.bind hh2 ?_)))
    refine Ev.step (fun k => by rw [spec_Quarrels.j1]) ?_
    refine ev_pos rfl (ev_pos (by omega) (ev_pos (by omega) ?_))
    rw [hr, wrap_id (x := (i : Int) + 1) (by omega) (by omega)]
    refine Ev.bind (canHold_spec [z, f] (by simp) (pair_in hm hf)) (ev_ite (fun e => ?_) (fun e => ev_bind0 (a := ([] : List Int)) rfl (ev_pos (by simp only [List.length_nil]; omega) (ev_pos (by omega) ?_))))
    · have e' : canHoldB [z, f] = true := e
      refine ev_eq (ih (i + 1) acc h2 (by omega)) ?_
      simp [e']
    · have e' : canHoldB [z, f] = false := Bool.eq_false_iff.mpr e
      refine ev_eq (ih (i + 1) (acc ++ [[] ++ z]) h2 (by first | (simp; done) | (simp; omega))) ?_
      simp [e']
theorem quarrels_spec (xs : List (List Int)) (f : List Int) (hf : f.length ≤ 1048576) (hn : xs.length ≤ 1048576) (hi : ∀ y ∈ xs, y.length ≤ 1048576) : Ev (fun k => spec_Quarrels.f k xs f) (quarrels xs f) := by
  unfold spec_Quarrels.f quarrels
  cases hs : isStore xs && isFormula f with
  | true =>
    rw [Bool.and_eq_true] at hs
    rw [if_pos rfl]
    simpa using quarrelsS_l0 xs f hf hn hi hs.1 hs.2 xs 0 [] rfl (by simp)
  | false =>
    rw [if_neg (by simp)]
    refine Ev.step (fun k => by rw [spec_Quarrels.l0]) ?_
    have out : Ev (fun k => spec_Quarrels.j1 k xs f [] 0 false) ([] : List (List Int)) := Ev.step (fun k => by rw [spec_Quarrels.j1]) (ev_neg (by decide) (Ev.now _))
    refine ev_ite (fun _ => ?_) (fun _ => out)
    refine Ev.bind (isStore_spec xs hn hi) (ev_ite (fun e => ?_) (fun _ => out))
    rw [e, Bool.true_and] at hs
    refine Ev.bind (isFormula_spec f (by omega)) ?_
    rw [hs]
    exact out
theorem quarrelsI_l0 (xs : List (List Int)) (f : List Int) (hf : f.length ≤ 1048576) (hn : xs.length ≤ 1048576) (hi : ∀ y ∈ xs, y.length ≤ 1048576) : ∀ (zs : List (List Int)) (i : Nat) (acc : List (List Int)), xs.drop i = zs → acc.length ≤ i → Ev (fun k => impl_Quarrels.l0 k f acc xs (xs.length : Int) (i : Int)) (acc ++ zs.filter (fun x => !canHoldB [x, f])) := by
  intro zs
  induction zs with
  | nil =>
    intro i acc h hl
    have := at_end h
    refine Ev.step (fun k => by rw [impl_Quarrels.l0]) ?_
    exact ev_neg (by omega) (ev_eq (Ev.now _) (by simp))
  | cons z zs ih =>
    intro i acc h hl
    obtain ⟨hlt, hz, h2, _⟩ := at_drop h
    have hr : rd_L1 xs (i : Int) = z := getD_at hz
    have hm := hi z (List.mem_of_getElem? hz)
    refine Ev.step (fun k => by rw [impl_Quarrels.l0]) ?_
    refine ev_pos (by omega) (ev_pos (by omega) (ev_pos (by omega) ?_))
    rw [hr, wrap_id (x := (i : Int) + 1) (by omega) (by omega)]
    refine Ev.bind (canHold_impl [z, f] (by simp) (pair_in hm hf)) (ev_ite (fun e => ?_) (fun e => ev_bind0 (cloneI_eq z hm) (ev_pos (by omega) ?_)))
    · have e' : canHoldB [z, f] = true := e
      refine ev_eq (ih (i + 1) acc h2 (by omega)) ?_
      simp [e']
    · have e' : canHoldB [z, f] = false := Bool.eq_false_iff.mpr e
      refine ev_eq (ih (i + 1) (acc ++ [z]) h2 (by first | (simp; done) | (simp; omega))) ?_
      simp [e']
theorem quarrels_impl (xs : List (List Int)) (f : List Int) (hf : f.length ≤ 1048576) (hn : xs.length ≤ 1048576) (hi : ∀ y ∈ xs, y.length ≤ 1048576) : Ev (fun k => impl_Quarrels.f k xs f) (quarrels xs f) := by
  have out : Ev (fun k => impl_Quarrels.j0 k xs f [] true) ([] : List (List Int)) := Ev.step (fun k => by rw [impl_Quarrels.j0]) (ev_pos rfl (Ev.now _))
  unfold impl_Quarrels.f quarrels
  refine ev_bind0 (a := ([] : List (List Int))) rfl (Ev.bind (isStore_impl xs hn hi) (ev_ite (fun e => ?_) (fun e => ?_)))
  · rw [e, Bool.true_and]
    refine Ev.bind (isFormulaI_ev f (by omega)) ?_
    cases hg : isFormula f with
    | true =>
      rw [if_pos rfl]
      refine Ev.step (fun k => by rw [impl_Quarrels.j0]) (ev_neg (by decide) ?_)
      simpa using quarrelsI_l0 xs f hf hn hi xs 0 [] rfl (by simp)
    | false =>
      rw [if_neg (by simp)]
      exact out
  · rw [show isStore xs = false by simpa using e, Bool.false_and, if_neg (by simp)]
    exact out

theorem FnExactQuarrels (l0 : List (List Int)) (g0 : l0.length ≤ 9223372036854775807 ∧ ∀ y ∈ l0, y.length ≤ 9223372036854775807 ∧ ∀ z ∈ y, (Lit.int .i64 z).wf = true) (l1 : List Int) (g1 : l1.length ≤ 9223372036854775807 ∧ ∀ y ∈ l1, (Lit.int .i64 y).wf = true) : ∃ k, laws_FnExactQuarrels.f k l0 l1 = some true := by
  refine Ev.rounds (g := fun k => laws_FnExactQuarrels.f k l0 l1) ?_
  unfold laws_FnExactQuarrels.f
  refine ev_ite (fun _ => Ev.now _) (fun hm => ?_)
  obtain ⟨r, hr, hok⟩ := szIntSS_ev l0 g0.1 (fun y hy => (g0.2 y hy).1)
  refine Ev.bind hr (ev_ite (fun _ => Ev.now _) (fun h0 => ?_))
  obtain ⟨hn, hi⟩ := hok h0
  have hs := quarrels_spec l0 l1 (by omega) hn hi
  have hp := quarrels_impl l0 l1 (by omega) hn hi
  obtain ⟨hwn, hwi⟩ := quarrels_size l0 l1 hn hi
  have ht := total_small l0 hn hi
  have hT := toIntS_ev l1 (by omega)
  have hG := toIntSS_ev l0 (by omega) (fun y hy => Nat.le_trans (hi y hy) (by decide))
  generalize quarrels l0 l1 = rs at hs hp hwn hwi
  have hwt := total_le 1048576 rs hwi
  have hwt2 : total rs ≤ 2199023255552 := by omega
  have hE := eqIntSS_same rs (by omega) (fun y hy => Nat.le_trans (hwi y hy) (by omega))
  refine Ev.bind hG (Ev.bind hT (Ev.bind hs (Ev.bind hG (Ev.bind hT (Ev.bind hp (Ev.bind hE (ev_pos rfl (Ev.bind hG ?_))))))))
  refine Ev.bind (eqIntSS_same _ g0.1 (fun y hy => (g0.2 y hy).1)) (ev_pos rfl (Ev.bind hT (Ev.bind (eqIntS_same _ (by omega)) (ev_pos rfl ?_))))
  refine Ev.bind (markIntSS_ev l0 1 (by omega) (by omega) (by omega)) ?_
  dsimp only
  refine Ev.bind (markIntS_ev l1 _ (by omega) (by omega)) ?_
  dsimp only
  refine ev_neg (by omega) (Ev.bind hE ?_)
  refine Ev.step (fun k => by rw [laws_FnExactQuarrels.j0]) ?_
  refine ev_neg (by decide) (Ev.bind (markIntSS_ev rs 1 (by omega) (by omega) (by omega)) ?_)
  dsimp only
  refine Ev.bind (heldIntSS_ev rs 1 (by omega) (by omega) (by omega)) (ev_neg (by omega) (ev_pos rfl ?_))
  refine Ev.bind hG (Ev.bind hT (Ev.bind hp (Ev.bind hE (ev_pos rfl ?_))))
  exact Ev.bind (heldIntSS_ev rs 1 (by omega) (by omega) (by omega)) (ev_neg (by omega) (ev_pos rfl (Ev.now _)))

end Go.Proofs.Ytlbecibchkamjaa.Pure
