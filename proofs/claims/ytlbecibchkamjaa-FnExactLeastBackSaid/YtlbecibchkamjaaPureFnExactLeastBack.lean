/- The plain statement of the law FnExactLeastBack, for all numbers and lists. -/
import Derived.Test.YtlbecibchkamjaaPFnExactLeastBackx0
import Derived.Test.YtlbecibchkamjaaPFnExactLeastBackx1
import Derived.Test.YtlbecibchkamjaaPFnExactLeastBackx2
import Derived.Test.YtlbecibchkamjaaPFnExactLeastBackx3
import Derived.Test.YtlbecibchkamjaaPFnExactLeastBackx4
import Derived.Test.YtlbecibchkamjaaPFnExactLeastBackx5
import Derived.Test.YtlbecibchkamjaaPFnExactLeastBackx6
import Derived.Test.YtlbecibchkamjaaPFnExactLeastBackx7
import Derived.Test.YtlbecibchkamjaaPFnExactLeastBackx8
import Derived.Test.YtlbecibchkamjaaBase
set_option linter.unusedVariables false
set_option linter.unusedSimpArgs false
namespace Go.Proofs.Ytlbecibchkamjaa.Pure
open Go.RowKit Go.Proofs.Ytlbecibchkamjaa.PFnExactLeastBack Go.Proofs.YtlbecibchkamjaaW.PrintWords Go.Proofs.YtlbecibchkamjaaW.PrintLast Go.Proofs.YtlbecibchkamjaaW.PrintMore Go.Proofs.Ytlbecibchkamjaa.Base
theorem toIntS_l0 (xs : List Int) (hn : xs.length ≤ 35184372088832) : ∀ (zs : List Int) (i : Nat) (ys : List Int), xs.drop i = zs → ys.length = xs.length → ys.take i = xs.take i → Ev (fun k => laws_toIntS.l0 k xs ys (i : Int)) xs := by
  intro zs
  induction zs with
  | nil =>
    intro i ys h hl ht
    have := at_end h
    refine Ev.step (fun k => by rw [laws_toIntS.l0]) (ev_neg (by omega) ?_)
    rw [List.take_of_length_le (by omega), List.take_of_length_le (by omega)] at ht
    rw [ht]
    exact Ev.now _
  | cons z zs ih =>
    intro i ys h hl ht
    obtain ⟨hi, hz, h', _⟩ := at_drop h
    refine Ev.step (fun k => by rw [laws_toIntS.l0]) (ev_pos (by omega) (ev_pos (by omega) (ev_pos (by omega) ?_)))
    rw [wrap_id (by omega) (by omega), Int.toNat_natCast, rd_get hz]
    exact ih (i + 1) _ h' (by simp [hl]) (by rw [take_set_at (by omega), take_at hz, ht])
theorem toIntS_ev (xs : List Int) (hn : xs.length ≤ 35184372088832) : Ev (fun k => laws_toIntS.f k xs) xs := by
  unfold laws_toIntS.f
  exact ev_pos (by omega) (ev_pos (by omega) (toIntS_l0 xs hn xs 0 _ rfl (by simp) (by simp)))
theorem eqIntS_l0 (xs ys : List Int) (hl : xs.length = ys.length) (hn : xs.length ≤ 9223372036854775807) : ∀ (zs us : List Int) (i : Nat), xs.drop i = zs → ys.drop i = us → Ev (fun k => laws_eqIntS.l0 k xs ys (i : Int)) (decide (zs = us)) := by
  intro zs
  induction zs with
  | nil =>
    intro us i h hu
    have := at_end h
    refine Ev.step (fun k => by rw [laws_eqIntS.l0]) (ev_neg (by omega) ?_)
    rw [List.drop_of_length_le (by omega)] at hu
    subst hu
    exact ev_eq (Ev.now _) (by simp)
  | cons z zs ih =>
    intro us i h hu
    obtain ⟨hi, hz, h', _⟩ := at_drop h
    cases us with
    | nil => have := at_end hu; omega
    | cons u us =>
      obtain ⟨_, hzu, hu', _⟩ := at_drop hu
      refine Ev.step (fun k => by rw [laws_eqIntS.l0]) (ev_pos (by omega) (ev_pos (by omega) (ev_pos (by omega) ?_)))
      rw [wrap_id (by omega) (by omega), rd_get hz, rd_get hzu]
      refine ev_ite (fun e => ev_eq (ih us (i + 1) h' hu') (by simp [e])) (fun e => ev_eq (Ev.now _) (by simp [e]))
theorem eqIntS_ev (xs ys : List Int) (hn : xs.length ≤ 9223372036854775807) : Ev (fun k => laws_eqIntS.f k xs ys) (decide (xs = ys)) := by
  unfold laws_eqIntS.f
  refine ev_ite (fun e => eqIntS_l0 xs ys (by omega) hn xs ys 0 rfl rfl) (fun e => ev_eq (Ev.now _) ?_)
  have : xs ≠ ys := by rintro rfl; exact e rfl
  simp [this]
theorem eqIntS_same (xs : List Int) (hn : xs.length ≤ 9223372036854775807) : Ev (fun k => laws_eqIntS.f k xs xs) true := ev_eq (eqIntS_ev xs xs hn) (by simp)
theorem l1In_eq (x a b : Int) : spec_l1In.f x a b = some (decide (a ≤ x ∧ x ≤ b)) := by
  unfold spec_l1In.f
  by_cases h : a ≤ x <;> simp [h]
theorem inRange_eq (x a b : Int) : impl_InRange.f x a b = some (decide (a ≤ x ∧ x ≤ b)) := by
  unfold impl_InRange.f
  by_cases h : a ≤ x <;> simp [h]

/-- How many values are on the pile behind a formula's signs, from n on. -/
def shape : List Int → Nat → Option Nat
  | [], n => some n
  | s :: r, n => if 0 ≤ s ∧ s ≤ 5 then shape r (n + 1) else if s = -1 then (if 1 ≤ n then shape r n else none) else if -4 ≤ s ∧ s ≤ -2 then (if 2 ≤ n then shape r (n - 1) else none) else none
def isFormula (f : List Int) : Bool := decide (shape f 0 = some 1) && decide (f.length ≤ 24)
/-- The pile (its top first) behind a formula's signs. -/
def evalS {β : Type} (lit : Int → β) (no : β → β) (op : Int → β → β → β) : List Int → List β → Option (List β)
  | [], st => some st
  | s :: r, st => if 0 ≤ s ∧ s ≤ 5 then evalS lit no op r (lit s :: st) else if s = -1 then (match st with | x :: st2 => evalS lit no op r (no x :: st2) | [] => none) else if -4 ≤ s ∧ s ≤ -2 then (match st with | b :: a :: st2 => evalS lit no op r (op s a b :: st2) | _ => none) else none
theorem evalS_shape {β : Type} (lit : Int → β) (no : β → β) (op : Int → β → β → β) : ∀ (f : List Int) (st : List β), (evalS lit no op f st).map List.length = shape f st.length := by
  intro f
  induction f with
  | nil => intro st; rfl
  | cons s r ih =>
    intro st
    unfold evalS shape
    by_cases h0 : 0 ≤ s ∧ s ≤ 5
    · rw [if_pos h0, if_pos h0, ih]; rfl
    · rw [if_neg h0, if_neg h0]
      by_cases h1 : s = -1
      · rw [if_pos h1, if_pos h1]
        cases st with
        | nil => rfl
        | cons x st2 => rw [if_pos (by simp)]; dsimp only; rw [ih]; rfl
      · rw [if_neg h1, if_neg h1]
        by_cases h2 : -4 ≤ s ∧ s ≤ -2
        · rw [if_pos h2, if_pos h2]
          match st with
          | [] => rfl
          | [x] => rfl
          | b :: a :: st2 => rw [if_pos (by simp)]; dsimp only; rw [ih]; rfl
        · rw [if_neg h2, if_neg h2]; rfl
/-- One homomorphism's image of the other's pile. -/
theorem evalS_map {β γ : Type} {lit : Int → β} {no : β → β} {op : Int → β → β → β} {lit2 : Int → γ} {no2 : γ → γ} {op2 : Int → γ → γ → γ} (h : β → γ)
    (h0 : ∀ s, 0 ≤ s → s ≤ 5 → h (lit s) = lit2 s) (h1 : ∀ x, h (no x) = no2 (h x)) (h2 : ∀ s a b, -4 ≤ s → s ≤ -2 → h (op s a b) = op2 s (h a) (h b)) :
    ∀ (f : List Int) (st : List β), evalS lit2 no2 op2 f (st.map h) = (evalS lit no op f st).map (List.map h) := by
  intro f
  induction f with
  | nil => intro st; rfl
  | cons s r ih =>
    intro st
    unfold evalS
    by_cases k0 : 0 ≤ s ∧ s ≤ 5
    · rw [if_pos k0, if_pos k0, ← ih, List.map_cons, h0 s k0.1 k0.2]
    · rw [if_neg k0, if_neg k0]
      by_cases k1 : s = -1
      · rw [if_pos k1, if_pos k1]
        cases st with
        | nil => rfl
        | cons x st2 => simp only [List.map_cons]; rw [← ih, List.map_cons, h1]
      · rw [if_neg k1, if_neg k1]
        by_cases k2 : -4 ≤ s ∧ s ≤ -2
        · rw [if_pos k2, if_pos k2]
          match st with
          | [] => rfl
          | [x] => rfl
          | b :: a :: st2 => simp only [List.map_cons]; rw [← ih, List.map_cons, h2 s a b k2.1 k2.2]
        · rw [if_neg k2, if_neg k2]; rfl
def opB (s : Int) (a b : Bool) : Bool := if s = -2 then a && b else if s = -3 then a || b else !a || b
/-- A formula's value where v has the letters' values; false where it is no formula. -/
def valB (v : Nat → Bool) (f : List Int) : Bool := match evalS (fun s => v s.toNat) (fun x => !x) opB f [] with | some [x] => x | _ => false
def value (v : Nat → Bool) (f : List Int) : Bool := isFormula f && valB v f
theorem isFormula_spec_l0 (xs : List Int) (hn : xs.length ≤ 9223372036854775800) : ∀ (zs : List Int) (i n : Nat), xs.drop i = zs → n ≤ i → Ev (fun k => spec_IsFormula.l0 k xs (n : Int) (i : Int)) (decide (shape zs n = some 1) && decide (xs.length ≤ 24)) := by
  intro zs
  induction zs with
  | nil =>
    intro i n h _
    have := at_end h
    refine Ev.step (fun k => by rw [spec_IsFormula.l0]) ?_
    refine ev_neg (by omega) (ev_ite (fun e => ev_eq (Ev.now _) ?_) (fun e => ev_eq (Ev.now _) ?_))
    · have : n = 1 := by omega
      subst this
      simp [shape]
      omega
    · have : n ≠ 1 := by omega
      simp [shape, this]
  | cons z zs ih =>
    intro i n h hni
    obtain ⟨hi, hz, h2, _⟩ := at_drop h
    refine Ev.step (fun k => by rw [spec_IsFormula.l0]) ?_
    refine ev_pos (by omega) (ev_pos (by omega) ?_)
    rw [rd_get hz, wrap_id (x := (i : Int) + 1) (by omega) (by omega)]
    have hsh : shape (z :: zs) n = if 0 ≤ z ∧ z ≤ 5 then shape zs (n + 1) else if z = -1 then (if 1 ≤ n then shape zs n else none) else if -4 ≤ z ∧ z ≤ -2 then (if 2 ≤ n then shape zs (n - 1) else none) else none := rfl
    rw [hsh]
    refine ev_bind0 (l1In_eq _ _ _) (ev_ite (fun e0 => ?_) (fun e0 => ?_))
    · simp only [decide_eq_true_eq] at e0
      rw [if_pos e0, wrap_id (by omega) (by omega)]
      exact ih (i + 1) (n + 1) h2 (by omega)
    · simp only [decide_eq_true_eq] at e0
      rw [if_neg e0]
      have tail : z ≠ -1 ∨ ¬ 1 ≤ n → Ev (fun k => spec_IsFormula.j1 k xs (n : Int) (i : Int) false) (decide ((if z = -1 then (if 1 ≤ n then shape zs n else none) else if -4 ≤ z ∧ z ≤ -2 then (if 2 ≤ n then shape zs (n - 1) else none) else none) = some 1) && decide (xs.length ≤ 24)) := by
        intro hz1
        refine Ev.step (fun k => by rw [spec_IsFormula.j1]) ?_
        refine ev_neg (by decide) (ev_pos (by omega) (ev_pos (by omega) ?_))
        rw [rd_get hz, wrap_id (x := (i : Int) + 1) (by omega) (by omega)]
        refine ev_bind0 (l1In_eq _ _ _) (ev_ite (fun e2 => ?_) (fun e2 => ev_eq (Ev.now _) ?_))
        · simp only [decide_eq_true_eq] at e2
          rw [if_neg (show ¬ z = -1 by omega), if_pos e2]
          refine ev_ite (fun e3 => ?_) (fun e3 => ev_eq (Ev.now _) ?_)
          · rw [if_pos (by omega), wrap_id (by omega) (by omega), show (n : Int) - 1 = ((n - 1 : Nat) : Int) by omega]
            exact ih (i + 1) (n - 1) h2 (by omega)
          · rw [if_neg (by omega)]
            simp
        · simp only [decide_eq_true_eq] at e2
          rw [if_neg e2]
          rcases hz1 with hz1 | hz1
          · rw [if_neg hz1]; simp
          · rw [if_neg hz1]; simp
      refine ev_ite (fun e1 => ?_) (fun e1 => tail (.inl e1))
      by_cases hn1 : 1 ≤ n
      · rw [if_pos e1, if_pos hn1, show decide ((n : Int) ≥ 1) = true by simp; omega]
        refine Ev.step (fun k => by rw [spec_IsFormula.j1]) (ev_pos rfl ?_)
        rw [wrap_id (x := (i : Int) + 1) (by omega) (by omega)]
        exact ih (i + 1) n h2 (by omega)
      · rw [show decide ((n : Int) ≥ 1) = false by simp; omega]
        exact tail (.inr hn1)
theorem isFormula_spec (f : List Int) (hn : f.length ≤ 9223372036854775800) : Ev (fun k => spec_IsFormula.f k f) (isFormula f) := by
  unfold spec_IsFormula.f
  exact isFormula_spec_l0 f hn f 0 0 rfl (by omega)
theorem shape_bound : ∀ (f : List Int) (n m : Nat), shape f n = some m → m ≤ n + f.length := by
  intro f
  induction f with
  | nil => intro n m h; simp [shape] at h; omega
  | cons s r ih =>
    intro n m h
    unfold shape at h
    rw [List.length_cons]
    split at h
    · have := ih _ _ h; omega
    · split at h
      · split at h
        · have := ih _ _ h; omega
        · simp at h
      · split at h
        · split at h
          · have := ih _ _ h; omega
          · simp at h
        · simp at h
theorem rdOf_snoc {α : Type} (d x : α) (l : List α) (i : Int) (h : i = l.length) : rdOf d (l ++ [x]) i = x := by
  subst h
  unfold rdOf
  simp
theorem set_snoc {α : Type} (x y : α) (l : List α) (i : Int) (h : i = l.length) : (l ++ [x]).set i.toNat y = l ++ [y] := by
  subst h
  rw [Int.toNat_natCast, List.set_append_right _ _ (Nat.le_refl _)]
  simp
theorem take_snoc {α : Type} (x : α) (l : List α) (i : Int) (h : i = l.length) : (l ++ [x]).take i.toNat = l := by
  subst h
  simp
theorem opB_eq (s : Int) (a b : Bool) : spec_l10Op.f s a b = some (opB s a b) := by
  unfold spec_l10Op.f opB
  by_cases h2 : s = -2
  · cases a <;> simp [h2]
  · by_cases h3 : s = -3
    · cases a <;> simp [h3]
    · cases a <;> simp [h2, h3]
theorem value_spec_l0 (xs : List Int) (ls : List Bool) (v : Nat → Bool) (hv : ∀ k : Nat, v k = ls.getD k false) (hn : xs.length ≤ 24) (hl : ls.length ≤ 9223372036854775807) : ∀ (zs : List Int) (i : Nat) (st : List Bool), xs.drop i = zs → st.length ≤ i → shape zs st.length = some 1 →
    Ev (fun k => spec_Value.l0 k xs ls st.reverse (i : Int)) (match evalS (fun s => v s.toNat) (fun x => !x) opB zs st with | some [x] => x | _ => false) := by
  intro zs
  induction zs with
  | nil =>
    intro i st h hst hsh
    have := at_end h
    have hl1 : st.length = 1 := by simpa [shape] using hsh
    match st, hl1 with
    | [x], _ =>
      refine Ev.step (fun k => by rw [spec_Value.l0]) ?_
      exact ev_neg (by omega) (ev_pos (by simp) (ev_eq (Ev.now _) rfl))
  | cons z zs ih =>
    intro i st h hst hsh
    obtain ⟨hi, hz, h2, _⟩ := at_drop h
    have hrl : st.reverse.length = st.length := List.length_reverse
    refine Ev.step (fun k => by rw [spec_Value.l0]) ?_
    refine ev_pos (by omega) (ev_pos (by omega) ?_)
    rw [rd_get hz, wrap_id (x := (i : Int) + 1) (by omega) (by omega)]
    unfold shape at hsh
    unfold evalS
    by_cases e0 : 0 ≤ z ∧ z ≤ 5
    · rw [if_pos e0] at hsh
      rw [if_pos e0]
      have ih2 := ih (i + 1) (v z.toNat :: st) h2 (by first | (simp; done) | (simp; omega)) hsh
      rw [List.reverse_cons] at ih2
      refine ev_pos (by omega) ?_
      by_cases hlt : z < (ls.length : Int)
      · refine ev_pos hlt (ev_pos e0.1 (ev_pos (by omega) ?_))
        rw [show rdOf false ls z = v z.toNat from (hv z.toNat).symm]
        exact ih2
      · refine ev_neg hlt (ev_pos (by omega) ?_)
        have : v z.toNat = false := by
          rw [hv, List.getD_eq_getElem?_getD, List.getElem?_eq_none (by omega)]
          rfl
        rw [this] at ih2 ⊢
        exact ih2
    · rw [if_neg e0] at hsh
      rw [if_neg e0]
      by_cases e1 : z = -1
      · rw [if_pos e1] at hsh
        rw [if_pos e1]
        refine ev_neg (by omega) (ev_pos e1 ?_)
        cases st with
        | nil => simp at hsh
        | cons x st2 =>
          rw [if_pos (by simp)] at hsh
          have ih2 := ih (i + 1) ((!x) :: st2) h2 (by simp only [List.length_cons] at hst ⊢; omega) (by simpa using hsh)
          rw [List.reverse_cons] at ih2 ⊢
          simp only [List.length_cons] at hst
          rw [wrap_id (x := ((st2.reverse ++ [x]).length : Int) - 1) (by first | (simp; done) | (simp; omega)) (by first | (simp; done) | (simp; omega))]
          refine ev_pos (by first | (simp; done) | (simp; omega)) (ev_pos (by first | (simp; done) | (simp; omega)) ?_)
          rw [rdOf_snoc false x st2.reverse _ (by first | (simp; done) | (simp; omega)), set_snoc x (!x) st2.reverse _ (by first | (simp; done) | (simp; omega))]
          exact ih2
      · rw [if_neg e1] at hsh
        rw [if_neg e1]
        by_cases e2 : -4 ≤ z ∧ z ≤ -2
        · rw [if_pos e2] at hsh
          rw [if_pos e2]
          refine ev_neg (by omega) (ev_neg e1 ?_)
          match st with
          | [] => simp at hsh
          | [x] => simp at hsh
          | b :: a :: st2 =>
            rw [if_pos (by simp)] at hsh
            simp only [List.length_cons] at hst
            have ih2 := ih (i + 1) (opB z a b :: st2) h2 (by first | (simp; done) | (simp; omega)) (by simpa using hsh)
            rw [List.reverse_cons] at ih2
            dsimp only
            rw [List.reverse_cons, List.reverse_cons]
            have hlen : ((st2.reverse ++ [a] ++ [b]).length : Int) = st2.length + 2 := (by first | (simp; done) | (simp; omega))
            rw [hlen, wrap_id (x := (st2.length : Int) + 2 - 2) (by omega) (by omega), wrap_id (x := (st2.length : Int) + 2 - 1) (by omega) (by omega)]
            refine ev_pos (by omega) (ev_pos (by omega) (ev_pos (by omega) (ev_pos (by omega) ?_)))
            rw [rdOf_snoc false b (st2.reverse ++ [a]) ((st2.length : Int) + 2 - 1) (by first | (simp; done) | (simp; omega))]
            have ha : rdOf false (st2.reverse ++ [a] ++ [b]) ((st2.length : Int) + 2 - 2) = a := by
              rw [show (st2.length : Int) + 2 - 2 = ((st2.length : Nat) : Int) by omega]
              unfold rdOf
              simp
            have ht : (st2.reverse ++ [a] ++ [b]).take ((st2.length : Int) + 2 - 2).toNat = st2.reverse := by
              rw [show (st2.length : Int) + 2 - 2 = ((st2.length : Nat) : Int) by omega, Int.toNat_natCast, List.append_assoc, List.take_append_of_le_length (by simp), List.take_of_length_le (by simp)]
            rw [ha, ht]
            refine ev_bind0 (opB_eq _ _ _) (ev_pos (by omega) (ev_bind0 rfl (ev_pos (by first | (simp; done) | (simp; omega)) ?_)))
            exact ih2
        · rw [if_neg e2] at hsh
          simp at hsh
theorem value_spec (f : List Int) (ls : List Bool) (hn : f.length ≤ 9223372036854775800) (hl : ls.length ≤ 9223372036854775807) : Ev (fun k => spec_Value.f k f ls) (value (fun k => ls.getD k false) f) := by
  unfold spec_Value.f value
  refine Ev.bind (isFormula_spec f hn) (ev_ite (fun e => ?_) (fun e => ev_eq (Ev.now _) ?_))
  · rw [e, Bool.true_and]
    have e2 := e
    simp only [isFormula, Bool.and_eq_true, decide_eq_true_eq] at e2
    exact value_spec_l0 f ls _ (fun _ => rfl) e2.2 hl f 0 [] rfl (by simp) e2.1
  · simp [e]
/-- A formula's value in row m. -/
def rowVal (m : Nat) (f : List Int) : Bool := value (fun k => m.testBit k) f
theorem l11Row_all : ∀ m : Fin 64, spec_l11Row.f 7 ((m.val : Nat) : Int) = some ((List.range 6).map fun k => m.val.testBit k) := by decide +kernel
theorem l11Row_ev (m : Nat) (hm : m < 64) : Ev (fun k => spec_l11Row.f k (m : Int)) ((List.range 6).map fun k => m.testBit k) :=
  Ev.of (spec_l11Row.mono (m : Int)) (k := 7) (l11Row_all ⟨m, hm⟩)
theorem testBit_high (m k : Nat) (hm : m < 64) (hk : 6 ≤ k) : m.testBit k = false := by
  apply Nat.testBit_lt_two_pow
  calc m < 2 ^ 6 := hm
    _ ≤ 2 ^ k := Nat.pow_le_pow_right (by decide) hk
theorem row_getD (m : Nat) (hm : m < 64) (k : Nat) : ((List.range 6).map fun k => m.testBit k).getD k false = m.testBit k := by
  rw [List.getD_eq_getElem?_getD, List.getElem?_map]
  by_cases h : k < 6
  · rw [List.getElem?_range h]; rfl
  · rw [List.getElem?_eq_none (by first | (simp; done) | (simp; omega)), testBit_high m k hm (by omega)]; rfl
theorem value_row (f : List Int) (m : Nat) (hm : m < 64) (hn : f.length ≤ 9223372036854775800) : Ev (fun k => spec_Value.f k f ((List.range 6).map fun k => m.testBit k)) (rowVal m f) := by
  refine ev_eq (value_spec f _ hn (by simp)) ?_
  unfold rowVal
  congr 1
  funext k
  exact row_getD m hm k
theorem wrap_u64_ (n : Int) : IntKind.u64.wrap n = n % 18446744073709551616 := by simp [IntKind.wrap, IntKind.bits, IntKind.signed]
theorem bits_and_bv (a b : BitVec 64) : Go.bits .and .u64 (a.toNat : Int) (b.toNat : Int) = ((a &&& b).toNat : Int) := by
  show IntKind.u64.wrap ((BitVec.ofInt 64 (a.toNat : Int) &&& BitVec.ofInt 64 (b.toNat : Int)).toNat : Int) = _
  rw [BitVec.ofInt_natCast, BitVec.ofInt_natCast, BitVec.ofNat_toNat, BitVec.ofNat_toNat, BitVec.setWidth_eq, BitVec.setWidth_eq]
  have := (a &&& b).isLt
  rw [wrap_u64_]
  omega
theorem bits_or_bv (a b : BitVec 64) : Go.bits .or .u64 (a.toNat : Int) (b.toNat : Int) = ((a ||| b).toNat : Int) := by
  show IntKind.u64.wrap ((BitVec.ofInt 64 (a.toNat : Int) ||| BitVec.ofInt 64 (b.toNat : Int)).toNat : Int) = _
  rw [BitVec.ofInt_natCast, BitVec.ofInt_natCast, BitVec.ofNat_toNat, BitVec.ofNat_toNat, BitVec.setWidth_eq, BitVec.setWidth_eq]
  have := (a ||| b).isLt
  rw [wrap_u64_]
  omega
theorem bits_not_bv (a : BitVec 64) : Go.bits .xor .u64 18446744073709551615 (a.toNat : Int) = ((~~~a).toNat : Int) := by
  show IntKind.u64.wrap ((BitVec.ofInt 64 18446744073709551615 ^^^ BitVec.ofInt 64 (a.toNat : Int)).toNat : Int) = _
  have h1 : BitVec.ofInt 64 18446744073709551615 = BitVec.allOnes 64 := by decide
  rw [h1, BitVec.ofInt_natCast, BitVec.ofNat_toNat, BitVec.setWidth_eq, BitVec.allOnes_xor]
  have := (~~~a).isLt
  rw [wrap_u64_]
  omega
def letterBV (s : Int) : BitVec 64 := if s = 0 then 12297829382473034410#64 else if s = 1 then 14757395258967641292#64 else if s = 2 then 17361641481138401520#64 else if s = 3 then 18374966859414961920#64 else if s = 4 then 18446462603027742720#64 else 18446744069414584320#64
theorem letterRows_all : ∀ s : Fin 6, impl_letterRows.f 65 ((s.val : Nat) : Int) = some ((letterBV ((s.val : Nat) : Int)).toNat : Int) := by decide +kernel
theorem letterRows_ev (s : Int) (h0 : 0 ≤ s) (h5 : s ≤ 5) : Ev (fun k => impl_letterRows.f k s) ((letterBV s).toNat : Int) := by
  have := letterRows_all ⟨s.toNat, by omega⟩
  rw [show ((s.toNat : Nat) : Int) = s by omega] at this
  exact Ev.of (impl_letterRows.mono s) (k := 65) this
theorem letterBV_bit : ∀ (s : Fin 6) (m : Fin 64), (letterBV ((s.val : Nat) : Int)).getLsbD m.val = m.val.testBit s.val := by decide +kernel
def opV (s : Int) (a b : BitVec 64) : BitVec 64 := if s = -2 then a &&& b else if s = -3 then a ||| b else ~~~a ||| b
def rowsE (f : List Int) : Option (List (BitVec 64)) := evalS letterBV (fun x => ~~~x) opV f []
/-- The rows that rowsOf answers with. -/
def rowsBV (f : List Int) : BitVec 64 := match rowsE f with | some st => st.getLastD 0#64 | none => 0#64
theorem rd_snoc (x : Int) (l : List Int) (i : Int) (h : i = l.length) : rd (l ++ [x]) i = x := by
  subst h
  unfold rd
  simp
theorem iset_snoc (x y : Int) (l : List Int) (i : Int) (h : i = l.length) : (l ++ [x]).set i.toNat y = l ++ [y] := by
  subst h
  rw [Int.toNat_natCast, List.set_append_right _ _ (Nat.le_refl _)]
  simp
theorem itake_snoc (x : Int) (l : List Int) (i : Int) (h : i = l.length) : (l ++ [x]).take i.toNat = l := by
  subst h
  simp
/-- The pile as the program has it: numbers, the top last. -/
def pileV (st : List (BitVec 64)) : List Int := (st.map fun x => (x.toNat : Int)).reverse
theorem pileV_cons (x : BitVec 64) (st : List (BitVec 64)) : pileV (x :: st) = pileV st ++ [(x.toNat : Int)] := by simp [pileV]
theorem pileV_length (st : List (BitVec 64)) : (pileV st).length = st.length := by simp [pileV]
theorem pileV_first (st : List (BitVec 64)) (h : st ≠ []) : rd (pileV st) 0 = ((st.getLastD 0#64).toNat : Int) := by
  unfold rd pileV
  cases st with
  | nil => exact absurd rfl h
  | cons a st =>
    rw [Int.toNat_zero, List.getD_eq_getElem?_getD, ← List.head?_eq_getElem?, List.head?_reverse, List.getLast?_map, List.getLast?_eq_some_getLast h]
    simp [List.getLastD]
def rowsAns (o : Option (List (BitVec 64))) : Int × Bool := match o with | some st => (((st.getLastD 0#64).toNat : Int), decide (st.length = 1)) | none => (0, false)
theorem rowsOf_l0 (xs : List Int) (hn : xs.length ≤ 24) : ∀ (zs : List Int) (i : Nat) (st : List (BitVec 64)), xs.drop i = zs → st.length ≤ i → (zs = [] → st ≠ []) → (st = [] → i = 0) →
    Ev (fun k => impl_rowsOf.l0 k (pileV st) xs xs.length (i : Int)) (rowsAns (evalS letterBV (fun x => ~~~x) opV zs st)) := by
  intro zs
  induction zs with
  | nil =>
    intro i st h hst hne _
    have := at_end h
    have hp := pileV_length st
    have : 0 < st.length := List.length_pos_iff.2 (hne rfl)
    refine Ev.step (fun k => by rw [impl_rowsOf.l0]) ?_
    refine ev_neg (by omega) (ev_pos (by omega) (ev_eq (Ev.now _) ?_))
    rw [pileV_first st (hne rfl), hp]
    simp only [evalS, rowsAns]
    refine Prod.ext rfl ?_
    rw [Bool.eq_iff_iff]
    simp
    omega
  | cons z zs ih =>
    intro i st h hst hne hi0
    obtain ⟨hi, hz, h2, _⟩ := at_drop h
    have hp := pileV_length st
    refine Ev.step (fun k => by rw [impl_rowsOf.l0]) ?_
    refine ev_pos (by omega) (ev_pos (by omega) (ev_pos (by omega) ?_))
    rw [rd_get hz, wrap_id (x := (i : Int) + 1) (by omega) (by omega)]
    unfold evalS
    refine ev_bind0 (inRange_eq _ _ _) (ev_ite (fun e0 => ?_) (fun e0 => ?_))
    · simp only [decide_eq_true_eq] at e0
      rw [if_pos e0]
      refine Ev.bind (letterRows_ev z e0.1 e0.2) (ev_pos (by omega) ?_)
      have ih2 := ih (i + 1) (letterBV z :: st) h2 (by first | (simp; done) | (simp; omega)) (by simp) (by simp)
      rw [pileV_cons] at ih2
      exact ih2
    · simp only [decide_eq_true_eq] at e0
      rw [if_neg e0]
      have no2 : ¬ (-4 ≤ z ∧ z ≤ -2) ∨ ¬ 2 ≤ st.length → Ev (fun k => impl_rowsOf.j2 k (pileV st) z ((pileV st).length : Int) xs xs.length (i : Int) false) ((0, false) : Int × Bool) := by
        intro _
        refine Ev.step (fun k => by rw [impl_rowsOf.j2]) ?_
        exact ev_neg (by decide) (Ev.now _)
      by_cases e1 : z = -1
      · rw [if_pos e1]
        refine ev_pos e1 ?_
        cases st with
        | nil =>
          rw [show decide (((pileV []).length : Int) ≥ 1) = false by rfl]
          refine Ev.step (fun k => by rw [impl_rowsOf.j1]) ?_
          refine ev_neg (by decide) (ev_bind0 (inRange_eq _ _ _) (ev_neg (by first | (simp; done) | (simp; omega)) (no2 (.inr (by simp)))))
        | cons x st2 =>
          rw [show decide (((pileV (x :: st2)).length : Int) ≥ 1) = true by rw [pileV_length]; simp; omega]
          refine Ev.step (fun k => by rw [impl_rowsOf.j1]) ?_
          refine ev_pos rfl ?_
          have ih2 := ih (i + 1) ((~~~x) :: st2) h2 (by simp only [List.length_cons] at hst ⊢; omega) (by simp) (by simp)
          simp only [List.length_cons] at hst hp
          rw [pileV_cons] at ih2
          rw [hp, wrap_id (x := ((st2.length + 1 : Nat) : Int) - 1) (by omega) (by omega), wrap_id (x := (i : Int) + 1) (by omega) (by omega)]
          refine ev_pos (by omega) (ev_pos (by omega) ?_)
          rw [pileV_cons, rd_snoc _ _ _ (by rw [pileV_length]; omega), bits_not_bv, iset_snoc _ _ _ _ (by rw [pileV_length]; omega)]
          exact ih2
      · rw [if_neg e1]
        refine ev_neg e1 (Ev.step (fun k => by rw [impl_rowsOf.j1]) ?_)
        refine ev_neg (by decide) (ev_bind0 (inRange_eq _ _ _) (ev_ite (fun e2 => ?_) (fun e2 => ?_)))
        · simp only [decide_eq_true_eq] at e2
          rw [if_pos e2]
          match st with
          | [] => exact no2 (.inr (by simp))
          | [x] => exact no2 (.inr (by simp))
          | b :: a :: st2 =>
            simp only [List.length_cons] at hst hp
            dsimp only
            rw [hp, show decide (((st2.length + 1 + 1 : Nat) : Int) ≥ 2) = true by simp; omega]
            refine Ev.step (fun k => by rw [impl_rowsOf.j2]) ?_
            refine ev_pos rfl ?_
            have ih2 := ih (i + 1) (opV z a b :: st2) h2 (by first | (simp; done) | (simp; omega)) (by simp) (by simp)
            rw [pileV_cons] at ih2
            rw [hp, wrap_id (x := ((st2.length + 1 + 1 : Nat) : Int) - 2) (by omega) (by omega), wrap_id (x := ((st2.length + 1 + 1 : Nat) : Int) - 1) (by omega) (by omega), wrap_id (x := (i : Int) + 1) (by omega) (by omega)]
            refine ev_pos (by omega) (ev_pos (by omega) (ev_pos (by omega) (ev_pos (by omega) (ev_pos (by omega) ?_))))
            have hb : rd (pileV (b :: a :: st2)) (((st2.length + 1 + 1 : Nat) : Int) - 1) = (b.toNat : Int) := by
              rw [pileV_cons]
              exact rd_snoc _ _ _ (by rw [pileV_length]; first | (simp; done) | (simp; omega))
            have ha : rd (pileV (b :: a :: st2)) (((st2.length + 1 + 1 : Nat) : Int) - 2) = (a.toNat : Int) := by
              rw [pileV_cons, pileV_cons, show ((st2.length + 1 + 1 : Nat) : Int) - 2 = ((pileV st2).length : Int) by rw [pileV_length]; omega]
              unfold rd
              simp
            have ht : (pileV (b :: a :: st2)).take (((st2.length + 1 + 1 : Nat) : Int) - 1).toNat = pileV st2 ++ [(a.toNat : Int)] := by
              rw [pileV_cons, itake_snoc _ _ _ (by rw [pileV_length]; first | (simp; done) | (simp; omega)), pileV_cons]
            rw [hb, ha, ht]
            refine ev_bind0 rfl ?_
            have hlt : ((st2.length + 1 + 1 : Nat) : Int) - 2 < ((pileV st2 ++ [(a.toNat : Int)]).length : Int) := by rw [List.length_append, pileV_length]; simp; omega
            have hset : ∀ y : Int, (pileV st2 ++ [(a.toNat : Int)]).set (((st2.length + 1 + 1 : Nat) : Int) - 2).toNat y = pileV st2 ++ [y] := fun y => iset_snoc _ _ _ _ (by rw [pileV_length]; omega)
            refine ev_ite (fun e3 => ev_pos hlt ?_) (fun e3 => ev_ite (fun e4 => ev_pos hlt ?_) (fun e4 => ev_pos hlt ?_))
            · rw [bits_and_bv, hset]
              rw [show opV z a b = a &&& b by simp [opV, e3]] at ih2 ⊢
              exact ih2
            · rw [bits_or_bv, hset]
              rw [show opV z a b = a ||| b by simp [opV, e4]] at ih2 ⊢
              exact ih2
            · rw [bits_not_bv, bits_or_bv, hset]
              rw [show opV z a b = ~~~a ||| b by simp [opV, e3, e4]] at ih2 ⊢
              exact ih2
        · simp only [decide_eq_true_eq] at e2
          rw [if_neg e2]
          exact no2 (.inl e2)
def shapeI (f : List Int) : Bool := decide ((rowsE f).map List.length = some 1) && decide (f.length ≤ 24)
theorem rowsOf_impl (f : List Int) (hn : f.length ≤ 9223372036854775807) : Ev (fun k => impl_rowsOf.f k f) ((if 1 ≤ f.length ∧ f.length ≤ 24 then (rowsAns (rowsE f)).1 else 0), shapeI f) := by
  unfold impl_rowsOf.f
  refine ev_bind0 (inRange_eq _ _ _) (ev_ite (fun e => ?_) (fun e => ev_eq (Ev.now _) ?_))
  · simp only [decide_eq_true_eq] at e
    rw [if_pos (by omega)]
    refine ev_eq (rowsOf_l0 f (by omega) f 0 [] rfl (by simp) (by intro hf; subst hf; simp at e) (fun _ => rfl)) ?_
    show rowsAns (rowsE f) = _
    refine Prod.ext rfl ?_
    unfold shapeI rowsAns
    cases hE : rowsE f with
    | none => simp
    | some st => simp; omega
  · simp only [decide_eq_true_eq] at e
    rw [if_neg (by omega)]
    refine Prod.ext rfl ?_
    unfold shapeI
    by_cases h0 : f = []
    · subst h0; simp [rowsE, evalS]
    · have : 1 ≤ f.length := List.length_pos_iff.2 h0
      simp [show ¬ f.length ≤ 24 by omega]
theorem rowsAns_bv (o : Option (List (BitVec 64))) : ∃ bv : BitVec 64, (rowsAns o).1 = (bv.toNat : Int) := by
  cases o with
  | none => exact ⟨0#64, rfl⟩
  | some st => exact ⟨_, rfl⟩
theorem shapeI_eq (f : List Int) : shapeI f = isFormula f := by
  unfold shapeI isFormula rowsE
  rw [evalS_shape]
  rfl
theorem letterBV_bit2 (s : Int) (h0 : 0 ≤ s) (h5 : s ≤ 5) (m : Nat) (hm : m < 64) : (letterBV s).getLsbD m = m.testBit s.toNat := by
  have := letterBV_bit ⟨s.toNat, by omega⟩ ⟨m, hm⟩
  rw [show ((s.toNat : Nat) : Int) = s by omega] at this
  exact this
/-- Bit m of the rows of a formula is its value in row m. -/
theorem rowsBV_bit (f : List Int) (hf : isFormula f = true) (m : Nat) (hm : m < 64) : (rowsBV f).getLsbD m = valB (fun k => m.testBit k) f := by
  have hmap := evalS_map (lit := letterBV) (no := fun x => ~~~x) (op := opV) (lit2 := fun s => m.testBit s.toNat) (no2 := fun x => !x) (op2 := opB) (fun x : BitVec 64 => x.getLsbD m)
    (fun s h0 h5 => letterBV_bit2 s h0 h5 m hm) (fun x => by simp [hm]) (fun s a b h1 h2 => by
      unfold opV opB
      split
      · simp
      · split
        · simp
        · simp [hm]) f []
  simp only [isFormula, Bool.and_eq_true, decide_eq_true_eq] at hf
  have hs := evalS_shape letterBV (fun x => ~~~x) opV f []
  rw [show shape f ([] : List (BitVec 64)).length = some 1 from hf.1] at hs
  unfold rowsBV valB rowsE
  cases hE : evalS letterBV (fun x => ~~~x) opV f [] with
  | none => rw [hE] at hs; simp at hs
  | some st =>
    rw [hE] at hs hmap
    match st, hs with
    | [x], _ =>
      rw [show evalS (fun s => m.testBit s.toNat) (fun x => !x) opB f [] = some [x.getLsbD m] from hmap]
      rfl
theorem rowsOf_ev (f : List Int) (hn : f.length ≤ 9223372036854775807) : ∃ bv : BitVec 64, Ev (fun k => impl_rowsOf.f k f) ((bv.toNat : Int), isFormula f) ∧ (isFormula f = true → ∀ m, m < 64 → bv.getLsbD m = valB (fun k => m.testBit k) f) := by
  have h := rowsOf_impl f hn
  rw [shapeI_eq] at h
  by_cases hf : isFormula f = true
  · have hf2 := hf
    simp only [isFormula, Bool.and_eq_true, decide_eq_true_eq] at hf2
    have h1 : 1 ≤ f.length := by
      cases f with
      | nil => simp [shape] at hf2
      | cons a r => simp
    rw [if_pos ⟨h1, hf2.2⟩] at h
    refine ⟨rowsBV f, ev_eq h ?_, fun _ m hm => rowsBV_bit f hf m hm⟩
    unfold rowsAns rowsBV
    cases rowsE f <;> rfl
  · by_cases h1 : 1 ≤ f.length ∧ f.length ≤ 24
    · rw [if_pos h1] at h
      obtain ⟨bv, hb⟩ := rowsAns_bv (rowsE f)
      rw [hb] at h
      exact ⟨bv, h, fun h2 => absurd h2 hf⟩
    · rw [if_neg h1] at h
      exact ⟨0#64, h, fun h2 => absurd h2 hf⟩
theorem rowsOf_rows (f : List Int) (hn : f.length ≤ 9223372036854775807) : ∃ bv : BitVec 64, Ev (fun k => impl_rowsOf.f k f) ((bv.toNat : Int), isFormula f) ∧ (isFormula f = true → ∀ m, m < 64 → bv.getLsbD m = rowVal m f) := by
  obtain ⟨bv, h, hb⟩ := rowsOf_ev f hn
  refine ⟨bv, h, fun hf m hm => ?_⟩
  rw [hb hf m hm, rowVal, value, hf, Bool.true_and]
theorem rowVal_false (f : List Int) (m : Nat) (hf : isFormula f = false) : rowVal m f = false := by simp [rowVal, value, hf]
theorem bv_ext64 {a b : BitVec 64} (h : ∀ m, m < 64 → a.getLsbD m = b.getLsbD m) : a = b := BitVec.eq_of_getLsbD_eq h
theorem toIntSS_l0 (xs : List (List Int)) (hn : xs.length ≤ 11728124029610) (hi : ∀ y ∈ xs, y.length ≤ 35184372088832) : ∀ (zs : List (List Int)) (i : Nat) (ys : List (List Int)), xs.drop i = zs → ys.length = xs.length → ys.take i = xs.take i → Ev (fun k => laws_toIntSS.l0 k xs ys (i : Int)) xs := by
  intro zs
  induction zs with
  | nil =>
    intro i ys h hl ht
    have := at_end h
    refine Ev.step (fun k => by rw [laws_toIntSS.l0]) ?_
    refine ev_neg (by omega) ?_
    rw [List.take_of_length_le (by omega), List.take_of_length_le (by omega)] at ht
    rw [ht]
    exact Ev.now _
  | cons z zs ih =>
    intro i ys h hl ht
    obtain ⟨hlt, hz, h2, _⟩ := at_drop h
    have hr : rd_L1 xs (i : Int) = z := getD_at hz
    have hm : z ∈ xs := List.mem_of_getElem? hz
    refine Ev.step (fun k => by rw [laws_toIntSS.l0]) ?_
    refine ev_pos (by omega) (ev_pos (by omega) ?_)
    rw [hr]
    refine Ev.bind (toIntS_ev z (hi z hm)) (ev_pos (by omega) ?_)
    rw [wrap_id (by omega) (by omega), Int.toNat_natCast]
    exact ih (i + 1) _ h2 (by simp [hl]) (by rw [take_set_at (by omega), take_at hz, ht])
theorem toIntSS_ev (xs : List (List Int)) (hn : xs.length ≤ 11728124029610) (hi : ∀ y ∈ xs, y.length ≤ 35184372088832) : Ev (fun k => laws_toIntSS.f k xs) xs := by
  unfold laws_toIntSS.f
  exact ev_pos (by omega) (ev_pos (by omega) (toIntSS_l0 xs hn hi xs 0 _ rfl (by simp) (by simp)))
theorem eqIntSS_l0 (xs ys : List (List Int)) (hl : xs.length = ys.length) (hn : xs.length ≤ 9223372036854775807) (hi : ∀ y ∈ xs, y.length ≤ 9223372036854775807) : ∀ (zs us : List (List Int)) (i : Nat), xs.drop i = zs → ys.drop i = us → Ev (fun k => laws_eqIntSS.l0 k xs ys (i : Int)) (decide (zs = us)) := by
  intro zs
  induction zs with
  | nil =>
    intro us i h hu
    have := at_end h
    refine Ev.step (fun k => by rw [laws_eqIntSS.l0]) ?_
    rw [List.drop_of_length_le (by omega)] at hu
    subst hu
    exact ev_neg (by omega) (ev_eq (Ev.now _) (by simp))
  | cons z zs ih =>
    intro us i h hu
    obtain ⟨hlt, hz, h2, _⟩ := at_drop h
    cases us with
    | nil => have := at_end hu; omega
    | cons u us =>
      obtain ⟨_, hzu, hu2, _⟩ := at_drop hu
      have hr : rd_L1 xs (i : Int) = z := getD_at hz
      have hr2 : rd_L1 ys (i : Int) = u := getD_at hzu
      refine Ev.step (fun k => by rw [laws_eqIntSS.l0]) ?_
      refine ev_pos (by omega) (ev_pos (by omega) (ev_pos (by omega) ?_))
      rw [wrap_id (by omega) (by omega), hr, hr2]
      refine Ev.bind (eqIntS_ev z u (hi z (List.mem_of_getElem? hz))) (ev_ite (fun e => ev_eq (ih us (i + 1) h2 hu2) ?_) (fun e => ev_eq (Ev.now _) ?_))
      · simp only [decide_eq_true_eq] at e
        simp [e]
      · simp only [decide_eq_true_eq] at e
        simp [e]
theorem eqIntSS_ev (xs ys : List (List Int)) (hn : xs.length ≤ 9223372036854775807) (hi : ∀ y ∈ xs, y.length ≤ 9223372036854775807) : Ev (fun k => laws_eqIntSS.f k xs ys) (decide (xs = ys)) := by
  unfold laws_eqIntSS.f
  refine ev_ite (fun e => eqIntSS_l0 xs ys (by omega) hn hi xs ys 0 rfl rfl) (fun e => ev_eq (Ev.now _) ?_)
  have : xs ≠ ys := by rintro rfl; exact e rfl
  simp [this]
theorem eqIntSS_same (xs : List (List Int)) (hn : xs.length ≤ 9223372036854775807) (hi : ∀ y ∈ xs, y.length ≤ 9223372036854775807) : Ev (fun k => laws_eqIntSS.f k xs xs) true := ev_eq (eqIntSS_ev xs xs hn hi) (by simp)
theorem szIntS_eq (xs : List Int) (n : Int) (h0 : -9223372036854775808 + xs.length ≤ n) (h1 : n ≤ 9223372036854775807) : laws_szIntS.f xs n = some (if n - xs.length < 0 then -1 else n - xs.length) := by
  unfold laws_szIntS.f
  rw [wrap_id (by omega) (by omega)]
  split <;> rfl
theorem szIntSS_l0 (xs : List (List Int)) (hn : xs.length ≤ 9223372036854775807) (hi : ∀ y ∈ xs, y.length ≤ 9223372036854775807) : ∀ (zs : List (List Int)) (i : Nat) (n : Int), xs.drop i = zs → 0 ≤ n → n ≤ 1048576 → ∃ r, Ev (fun k => laws_szIntSS.l0 k xs n (i : Int)) r ∧ (¬ r < 0 → ∀ y ∈ zs, y.length ≤ 1048576) := by
  intro zs
  induction zs with
  | nil =>
    intro i n h _ _
    have := at_end h
    refine ⟨n, Ev.step (fun k => by rw [laws_szIntSS.l0]) ?_, by simp⟩
    exact ev_neg (by omega) (Ev.now _)
  | cons z zs ih =>
    intro i n h h0 h1
    obtain ⟨hlt, hz, h2, _⟩ := at_drop h
    have hr : rd_L1 xs (i : Int) = z := getD_at hz
    have hm := hi z (List.mem_of_getElem? hz)
    by_cases hs : n - (z.length : Int) < 0
    · refine ⟨-1, Ev.step (fun k => by rw [laws_szIntSS.l0]) ?_, by omega⟩
      refine ev_pos (by omega) (ev_pos (by omega) ?_)
      rw [hr]
      refine ev_bind0 (szIntS_eq z n (by omega) (by omega)) ?_
      rw [if_pos hs]
      exact ev_pos (by omega) (Ev.now _)
    · obtain ⟨r, hev, hall⟩ := ih (i + 1) (n - z.length) h2 (by omega) (by omega)
      refine ⟨r, Ev.step (fun k => by rw [laws_szIntSS.l0]) ?_, fun hr0 y hy => ?_⟩
      · refine ev_pos (by omega) (ev_pos (by omega) ?_)
        rw [hr]
        refine ev_bind0 (szIntS_eq z n (by omega) (by omega)) ?_
        rw [if_neg hs, wrap_id (by omega) (by omega)]
        exact ev_neg (by omega) hev
      · rcases List.mem_cons.1 hy with rfl | hy
        · omega
        · exact hall hr0 y hy
theorem szIntSS_ev (xs : List (List Int)) (hn : xs.length ≤ 9223372036854775807) (hi : ∀ y ∈ xs, y.length ≤ 9223372036854775807) : ∃ r, Ev (fun k => laws_szIntSS.f k xs 1048576) r ∧ (¬ r < 0 → xs.length ≤ 1048576 ∧ ∀ y ∈ xs, y.length ≤ 1048576) := by
  unfold laws_szIntSS.f
  by_cases hs : (1048576 : Int) - xs.length < 0
  · refine ⟨-1, ?_, by omega⟩
    rw [wrap_id (by omega) (by omega)]
    exact ev_pos hs (Ev.now _)
  · obtain ⟨r, hev, hall⟩ := szIntSS_l0 xs hn hi xs 0 (1048576 - xs.length) rfl (by omega) (by omega)
    refine ⟨r, ?_, fun h => ⟨by omega, hall h⟩⟩
    rw [wrap_id (by omega) (by omega)]
    exact ev_neg hs hev

theorem l11Ok_l0 (xs : List (List Int)) (hn : xs.length ≤ 1048576) (hi : ∀ y ∈ xs, y.length ≤ 1048576) : ∀ (zs : List (List Int)) (i : Nat), xs.drop i = zs → Ev (fun k => spec_l11Ok.l0 k xs (i : Int)) (zs.all isFormula) := by
  intro zs
  induction zs with
  | nil =>
    intro i h
    have := at_end h
    refine Ev.step (fun k => by rw [spec_l11Ok.l0]) ?_
    exact ev_neg (by omega) (Ev.now _)
  | cons z zs ih =>
    intro i h
    obtain ⟨hlt, hz, h2, _⟩ := at_drop h
    have hr : rd_L1 xs (i : Int) = z := getD_at hz
    refine Ev.step (fun k => by rw [spec_l11Ok.l0]) ?_
    refine ev_pos (by omega) (ev_pos (by omega) ?_)
    have := hi z (List.mem_of_getElem? hz)
    rw [hr, wrap_id (by omega) (by omega)]
    exact Ev.bind (isFormula_spec z (by omega)) (ev_ite (fun e => ev_eq (ih (i + 1) h2) (by simp [e])) (fun e => ev_eq (Ev.now _) (by simp [e])))
theorem l11Ok_ev (xs : List (List Int)) (hn : xs.length ≤ 1048576) (hi : ∀ y ∈ xs, y.length ≤ 1048576) : Ev (fun k => spec_l11Ok.f k xs) (xs.all isFormula) := by
  unfold spec_l11Ok.f
  exact l11Ok_l0 xs hn hi xs 0 rfl
theorem l11All_l0 (xs : List (List Int)) (m : Nat) (hm : m < 64) (hn : xs.length ≤ 1048576) (hi : ∀ y ∈ xs, y.length ≤ 1048576) : ∀ (zs : List (List Int)) (i : Nat), xs.drop i = zs → Ev (fun k => spec_l11All.l0 k xs (m : Int) (i : Int)) (zs.all (rowVal m)) := by
  intro zs
  induction zs with
  | nil =>
    intro i h
    have := at_end h
    refine Ev.step (fun k => by rw [spec_l11All.l0]) ?_
    exact ev_neg (by omega) (Ev.now _)
  | cons z zs ih =>
    intro i h
    obtain ⟨hlt, hz, h2, _⟩ := at_drop h
    have hr : rd_L1 xs (i : Int) = z := getD_at hz
    refine Ev.step (fun k => by rw [spec_l11All.l0]) ?_
    refine ev_pos (by omega) (ev_pos (by omega) ?_)
    have := hi z (List.mem_of_getElem? hz)
    rw [hr, wrap_id (by omega) (by omega)]
    exact Ev.bind (l11Row_ev m hm) (Ev.bind (value_row z m hm (by omega)) (ev_ite (fun e => ev_eq (ih (i + 1) h2) (by simp [e])) (fun e => ev_eq (Ev.now _) (by simp [e]))))
theorem l11All_ev (xs : List (List Int)) (m : Nat) (hm : m < 64) (hn : xs.length ≤ 1048576) (hi : ∀ y ∈ xs, y.length ≤ 1048576) : Ev (fun k => spec_l11All.f k xs (m : Int)) (xs.all (rowVal m)) := by
  unfold spec_l11All.f
  exact l11All_l0 xs m hm hn hi xs 0 rfl
theorem rowsOfAll_l0 (xs : List (List Int)) (hn : xs.length ≤ 1048576) (hi : ∀ y ∈ xs, y.length ≤ 1048576) : ∀ (zs : List (List Int)) (i : Nat) (a : BitVec 64) (ok : Bool), xs.drop i = zs → ∃ b : BitVec 64, Ev (fun k => impl_rowsOfAll.l0 k (a.toNat : Int) ok xs xs.length (i : Int)) ((b.toNat : Int), ok && zs.all isFormula) ∧ (zs.all isFormula = true → ∀ m, m < 64 → b.getLsbD m = (a.getLsbD m && zs.all (rowVal m))) := by
  intro zs
  induction zs with
  | nil =>
    intro i a ok h
    have := at_end h
    refine ⟨a, Ev.step (fun k => by rw [impl_rowsOfAll.l0]) ?_, by simp⟩
    exact ev_neg (by omega) (ev_eq (Ev.now _) (by simp))
  | cons z zs ih =>
    intro i a ok h
    obtain ⟨hlt, hz, h2, _⟩ := at_drop h
    have hr : rd_L1 xs (i : Int) = z := getD_at hz
    have := hi z (List.mem_of_getElem? hz)
    obtain ⟨bv, hb, hb2⟩ := rowsOf_rows z (by omega)
    obtain ⟨b, hev, hbit⟩ := ih (i + 1) (a &&& bv) (ok && isFormula z) h2
    refine ⟨b, Ev.step (fun k => by rw [impl_rowsOfAll.l0]) ?_, fun hok m hm => ?_⟩
    · refine ev_pos (by omega) (ev_pos (by omega) (ev_pos (by omega) ?_))
      rw [hr, wrap_id (by omega) (by omega)]
      refine Ev.bind hb ?_
      dsimp only
      rw [bits_and_bv]
      refine ev_ite (fun e => ev_eq ?_ (show ((b.toNat : Int), (ok && isFormula z) && zs.all isFormula) = _ by simp [Bool.and_assoc])) (fun e => ev_eq ?_ (show ((b.toNat : Int), (ok && isFormula z) && zs.all isFormula) = _ by simp [Bool.and_assoc]))
      · rw [e, Bool.true_and] at hev ⊢
        exact hev
      · have e : ok = false := by simpa using e
        rw [e, Bool.false_and] at hev ⊢
        exact hev
    · rw [List.all_cons, Bool.and_eq_true] at hok
      rw [hbit hok.2 m hm, BitVec.getLsbD_and, hb2 hok.1 m hm, List.all_cons, Bool.and_assoc]
theorem rowsOfAll_ev (xs : List (List Int)) (hn : xs.length ≤ 1048576) (hi : ∀ y ∈ xs, y.length ≤ 1048576) : ∃ b : BitVec 64, Ev (fun k => impl_rowsOfAll.f k xs) ((b.toNat : Int), xs.all isFormula) ∧ (xs.all isFormula = true → ∀ m, m < 64 → b.getLsbD m = xs.all (rowVal m)) := by
  obtain ⟨b, h, hb⟩ := rowsOfAll_l0 xs hn hi xs 0 (BitVec.allOnes 64) true rfl
  refine ⟨b, ?_, fun hok m hm => ?_⟩
  · unfold impl_rowsOfAll.f
    exact h
  · rw [hb hok m hm, BitVec.getLsbD_allOnes, show decide (m < 64) = true by simp [hm], Bool.true_and]
theorem bits_andNot_bv (a b : BitVec 64) : Go.bits .andNot .u64 (a.toNat : Int) (b.toNat : Int) = ((a &&& ~~~b).toNat : Int) := by
  show IntKind.u64.wrap ((BitVec.ofInt 64 (a.toNat : Int) &&& ~~~BitVec.ofInt 64 (b.toNat : Int)).toNat : Int) = _
  rw [BitVec.ofInt_natCast, BitVec.ofInt_natCast, BitVec.ofNat_toNat, BitVec.ofNat_toNat, BitVec.setWidth_eq, BitVec.setWidth_eq]
  have := (a &&& ~~~b).isLt
  rw [wrap_u64_]
  omega
theorem canHold_l0 (xs : List (List Int)) (hn : xs.length ≤ 1048576) (hi : ∀ y ∈ xs, y.length ≤ 1048576) : ∀ (d m : Nat), m + d = 64 → Ev (fun k => spec_CanHold.l0 k xs (m : Int)) (xs.all isFormula && (List.range d).any (fun j => xs.all (rowVal (m + j)))) := by
  intro d
  induction d with
  | zero =>
    intro m h
    refine Ev.step (fun k => by rw [spec_CanHold.l0]) ?_
    refine ev_neg (by omega) (Ev.step (fun k => by rw [spec_CanHold.j1]) (ev_neg (by decide) (ev_eq (Ev.now _) (by simp))))
  | succ d ih =>
    intro m h
    refine Ev.step (fun k => by rw [spec_CanHold.l0]) ?_
    refine ev_pos (by omega) (Ev.bind (l11Ok_ev xs hn hi) (Ev.step (fun k => by rw [spec_CanHold.j1]) ?_))
    rw [wrap_id (by omega) (by omega), List.range_succ_eq_map, List.any_cons, List.any_map]
    have e2 : ((fun j => xs.all (rowVal (m + j))) ∘ Nat.succ) = fun j => xs.all (rowVal (m + 1 + j)) := by
      funext j
      simp only [Function.comp]
      rw [show m + j.succ = m + 1 + j by omega]
    rw [e2]
    refine ev_ite (fun e => Ev.bind (l11All_ev xs m (by omega) hn hi) (ev_ite (fun e3 => ev_eq (Ev.now _) ?_) (fun e3 => ev_eq (ih (m + 1) (by omega)) ?_))) (fun e => ev_eq (Ev.now _) ?_)
    · rw [e, show m + 0 = m from rfl, e3]; rfl
    · rw [show m + 0 = m from rfl, show xs.all (rowVal m) = false by simpa using e3, Bool.false_or]
    · rw [show xs.all isFormula = false by simpa using e, Bool.false_and]
theorem canHold_spec (xs : List (List Int)) (hn : xs.length ≤ 1048576) (hi : ∀ y ∈ xs, y.length ≤ 1048576) : Ev (fun k => spec_CanHold.f k xs) (xs.all isFormula && (List.range 64).any (fun j => xs.all (rowVal j))) := by
  unfold spec_CanHold.f
  refine ev_eq (canHold_l0 xs hn hi 64 0 rfl) ?_
  simp
theorem canHold_impl (xs : List (List Int)) (hn : xs.length ≤ 1048576) (hi : ∀ y ∈ xs, y.length ≤ 1048576) : Ev (fun k => impl_CanHold.f k xs) (xs.all isFormula && (List.range 64).any (fun j => xs.all (rowVal j))) := by
  obtain ⟨b, h, hb⟩ := rowsOfAll_ev xs hn hi
  unfold impl_CanHold.f
  refine Ev.bind h (ev_ite (fun e => ev_eq (Ev.now _) ?_) (fun e => ev_eq (Ev.now _) ?_))
  · dsimp only at e
    dsimp only
    rw [e, Bool.true_and, Bool.eq_iff_iff, bne_iff_ne, List.any_eq_true]
    constructor
    · intro h0
      have hz : b ≠ 0#64 := by rintro rfl; exact h0 rfl
      refine Classical.byContradiction fun hno => hz (bv_ext64 fun m hm => ?_)
      rw [BitVec.getLsbD_zero]
      cases hbm : b.getLsbD m with
      | false => rfl
      | true => exact absurd ⟨m, List.mem_range.2 hm, by rw [← hb e m hm, hbm]⟩ hno
    · rintro ⟨m, hm, hall⟩ h0
      have hz : b = 0#64 := BitVec.eq_of_toNat_eq (by simpa using h0)
      have := hb e m (List.mem_range.1 hm)
      rw [hall, hz] at this
      simp at this
  · dsimp only at e
    rw [show xs.all isFormula = false by simpa using e, Bool.false_and]
/-- A number by its digits, each of w bits, the lowest first. -/
def num (w : Nat) : List Nat → Nat
  | [] => 0
  | d :: r => d + 2 ^ w * num w r
def pairUp : List Nat → List Nat
  | a :: b :: r => (a + b) :: pairUp r
  | _ => []
def evs : List Nat → List Nat
  | a :: _ :: r => a :: evs r
  | _ => []
def ods : List Nat → List Nat
  | _ :: b :: r => b :: ods r
  | _ => []
def adj : List Nat → List Nat
  | a :: b :: r => (a + b) :: adj (b :: r)
  | [a] => [a]
  | [] => []
theorem land_split (n a b c d : Nat) (ha : a < 2 ^ n) (hc : c < 2 ^ n) : (a + 2 ^ n * b) &&& (c + 2 ^ n * d) = (a &&& c) + 2 ^ n * (b &&& d) := by
  have hp : 0 < 2 ^ n := Nat.two_pow_pos n
  have hm : ((a + 2 ^ n * b) &&& (c + 2 ^ n * d)) % 2 ^ n = a &&& c := by
    rw [Nat.and_mod_two_pow, Nat.add_mul_mod_self_left, Nat.add_mul_mod_self_left, Nat.mod_eq_of_lt ha, Nat.mod_eq_of_lt hc]
  have hd : ((a + 2 ^ n * b) &&& (c + 2 ^ n * d)) / 2 ^ n = b &&& d := by
    rw [Nat.and_div_two_pow, Nat.add_mul_div_left _ _ hp, Nat.add_mul_div_left _ _ hp, Nat.div_eq_of_lt ha, Nat.div_eq_of_lt hc, Nat.zero_add, Nat.zero_add]
  rw [← Nat.mod_add_div ((a + 2 ^ n * b) &&& (c + 2 ^ n * d)) (2 ^ n), hm, hd]
def maskN (w n : Nat) : Nat := num (2 * w) (List.replicate n (2 ^ w - 1))
theorem pow_dbl (w : Nat) : 2 ^ (2 * w) = 2 ^ w * 2 ^ w := by rw [Nat.two_mul, Nat.pow_add]
theorem digit_lt (w a b : Nat) (ha : a < 2 ^ w) (hb : b < 2 ^ w) : a + 2 ^ w * b < 2 ^ (2 * w) := by
  rw [pow_dbl]
  calc a + 2 ^ w * b < 2 ^ w + 2 ^ w * b := by omega
    _ = 2 ^ w * (b + 1) := by rw [Nat.mul_add, Nat.mul_one, Nat.add_comm]
    _ ≤ 2 ^ w * 2 ^ w := Nat.mul_le_mul_left _ hb
theorem low_mask (w a b : Nat) (ha : a < 2 ^ w) : (a + 2 ^ w * b) &&& (2 ^ w - 1) = a := by
  rw [Nat.and_two_pow_sub_one_eq_mod, Nat.add_mul_mod_self_left, Nat.mod_eq_of_lt ha]
theorem mask_lt (w : Nat) : 2 ^ w - 1 < 2 ^ (2 * w) := by
  have h1 := Nat.two_pow_pos w
  have h2 : 2 ^ w ≤ 2 ^ (2 * w) := Nat.pow_le_pow_right (by decide) (by omega)
  omega
theorem land_evs (w : Nat) : ∀ (n : Nat) (l : List Nat), l.length = 2 * n → (∀ x ∈ l, x < 2 ^ w) → num w l &&& maskN w n = num (2 * w) (evs l) := by
  intro n
  induction n with
  | zero =>
    intro l h _
    have : l = [] := List.eq_nil_of_length_eq_zero (by omega)
    subst this
    simp [num, evs]
  | succ n ih =>
    intro l h hl
    match l, h with
    | a :: b :: r, h =>
      have ha := hl a (by simp)
      have hb := hl b (by simp)
      have e1 : num w (a :: b :: r) = (a + 2 ^ w * b) + 2 ^ (2 * w) * num w r := by
        simp only [num]
        rw [pow_dbl, Nat.mul_add, Nat.mul_assoc]
        omega
      have e2 : maskN w (n + 1) = (2 ^ w - 1) + 2 ^ (2 * w) * maskN w n := rfl
      rw [e1, e2, land_split _ _ _ _ _ (digit_lt w a b ha hb) (mask_lt w), low_mask w a b ha, ih r (by simp only [List.length_cons] at h; omega) (fun x hx => hl x (by simp [hx]))]
      rfl
theorem land_ods (w : Nat) : ∀ (n : Nat) (l : List Nat), l.length = 2 * n → (∀ x ∈ l, x < 2 ^ w) → num w l / 2 ^ w &&& maskN w n = num (2 * w) (ods l) := by
  intro n
  induction n with
  | zero =>
    intro l h _
    have : l = [] := List.eq_nil_of_length_eq_zero (by omega)
    subst this
    simp [num, ods]
  | succ n ih =>
    intro l h hl
    match l, h with
    | a :: b :: r, h =>
      have ha := hl a (by simp)
      have hb := hl b (by simp)
      have hp := Nat.two_pow_pos w
      have e1 : num w (a :: b :: r) / 2 ^ w = (b + 2 ^ w * (num w r % 2 ^ w)) + 2 ^ (2 * w) * (num w r / 2 ^ w) := by
        simp only [num]
        rw [Nat.add_mul_div_left _ _ hp, Nat.div_eq_of_lt ha, Nat.zero_add, pow_dbl, Nat.mul_assoc, Nat.add_assoc, ← Nat.mul_add, Nat.mod_add_div]
      have e2 : maskN w (n + 1) = (2 ^ w - 1) + 2 ^ (2 * w) * maskN w n := rfl
      rw [e1, e2, land_split _ _ _ _ _ (digit_lt w b _ hb (Nat.mod_lt _ hp)) (mask_lt w), low_mask w b _ hb, ih r (by simp only [List.length_cons] at h; omega) (fun x hx => hl x (by simp [hx]))]
      rfl
theorem evs_ods (w : Nat) : ∀ (l : List Nat), num w (ods l) + num w (evs l) = num w (pairUp l)
  | [] => rfl
  | [_] => rfl
  | a :: b :: r => by
    simp only [ods, evs, pairUp, num]
    rw [← evs_ods w r, Nat.mul_add]
    omega
theorem level (w n : Nat) (l : List Nat) (h : l.length = 2 * n) (hl : ∀ x ∈ l, x < 2 ^ w) : (num w l / 2 ^ w &&& maskN w n) + (num w l &&& maskN w n) = num (2 * w) (pairUp l) := by
  rw [land_evs w n l h hl, land_ods w n l h hl, evs_ods]
theorem num_adj (w : Nat) : ∀ (l : List Nat), (∀ x ∈ l, x < 2 ^ w) → num w (adj l) = num w l / 2 ^ w + num w l
  | [], _ => by simp [adj, num]
  | [a], hl => by
    have := hl a (by simp)
    simp [adj, num, Nat.div_eq_of_lt this]
  | a :: b :: r, hl => by
    have ha := hl a (by simp)
    have hp := Nat.two_pow_pos w
    have ih := num_adj w (b :: r) (fun x hx => hl x (List.mem_cons_of_mem _ hx))
    rw [adj, num, ih]
    have e1 : num w (a :: b :: r) = a + 2 ^ w * num w (b :: r) := rfl
    rw [e1, Nat.add_mul_div_left _ _ hp, Nat.div_eq_of_lt ha, Nat.zero_add, Nat.mul_add]
    have e2 : num w (b :: r) = b + 2 ^ w * (num w (b :: r) / 2 ^ w) := by
      have hb := hl b (by simp)
      have e3 : num w (b :: r) = b + 2 ^ w * num w r := rfl
      rw [e3, Nat.add_mul_div_left _ _ hp, Nat.div_eq_of_lt hb, Nat.zero_add]
    omega
theorem adj_length : ∀ l : List Nat, (adj l).length = l.length
  | [] => rfl
  | [_] => rfl
  | a :: b :: r => by
    rw [adj, List.length_cons, adj_length (b :: r)]
    rfl
theorem evs_adj : ∀ (n : Nat) (l : List Nat), l.length = 2 * n → evs (adj l) = pairUp l
  | 0, [], _ => rfl
  | n + 1, [a, b], _ => rfl
  | n + 1, a :: b :: c :: r, h => by
    rw [adj, adj, evs, pairUp, evs_adj n (c :: r) (by simp only [List.length_cons] at h ⊢; omega)]
theorem adj_le (m : Nat) : ∀ (l : List Nat), (∀ x ∈ l, x ≤ m) → ∀ x ∈ adj l, x ≤ 2 * m
  | [], _ => by simp [adj]
  | [a], hl => by
    intro x hx
    have := hl a (by simp)
    simp [adj] at hx
    omega
  | a :: b :: r, hl => by
    intro x hx
    rw [adj] at hx
    rcases List.mem_cons.1 hx with rfl | hx
    · have := hl a (by simp); have := hl b (by simp); omega
    · exact adj_le m (b :: r) (fun y hy => hl y (List.mem_cons_of_mem _ hy)) x hx
theorem pairUp_length : ∀ (n : Nat) (l : List Nat), l.length = 2 * n → (pairUp l).length = n
  | 0, [], _ => rfl
  | n + 1, a :: b :: r, h => by rw [pairUp, List.length_cons, pairUp_length n r (by simp only [List.length_cons] at h; omega)]
theorem pairUp_le (m : Nat) : ∀ (l : List Nat), (∀ x ∈ l, x ≤ m) → ∀ x ∈ pairUp l, x ≤ 2 * m
  | [], _ => by simp [pairUp]
  | [a], _ => by simp [pairUp]
  | a :: b :: r, hl => by
    intro x hx
    rw [pairUp] at hx
    rcases List.mem_cons.1 hx with rfl | hx
    · have := hl a (by simp); have := hl b (by simp); omega
    · exact pairUp_le m r (fun y hy => hl y (by simp [hy])) x hx
theorem pairUp_sum : ∀ (n : Nat) (l : List Nat), l.length = 2 * n → (pairUp l).sum = l.sum
  | 0, [], _ => rfl
  | n + 1, a :: b :: r, h => by
    rw [pairUp, List.sum_cons, List.sum_cons, List.sum_cons, pairUp_sum n r (by simp only [List.length_cons] at h; omega), Nat.add_assoc]
def bitsOf : Nat → Nat → List Nat
  | 0, _ => []
  | n + 1, x => (x % 2) :: bitsOf n (x / 2)
theorem bitsOf_length : ∀ n x, (bitsOf n x).length = n
  | 0, _ => rfl
  | n + 1, x => by rw [bitsOf, List.length_cons, bitsOf_length]
theorem bitsOf_le : ∀ n x, ∀ y ∈ bitsOf n x, y ≤ 1
  | 0, _ => by simp [bitsOf]
  | n + 1, x => by
    intro y hy
    rw [bitsOf] at hy
    rcases List.mem_cons.1 hy with rfl | hy
    · omega
    · exact bitsOf_le n _ y hy
theorem num_bitsOf : ∀ n x, x < 2 ^ n → num 1 (bitsOf n x) = x
  | 0, x, h => by
    have : x = 0 := by simpa using h
    subst this; rfl
  | n + 1, x, h => by
    rw [bitsOf, num, num_bitsOf n (x / 2) (by rw [Nat.pow_succ] at h; omega)]
    omega
theorem bitsOf_sum : ∀ n x, (bitsOf n x).sum = (List.range n).countP fun j => x.testBit j
  | 0, _ => rfl
  | n + 1, x => by
    rw [bitsOf, List.sum_cons, bitsOf_sum n (x / 2), List.range_succ_eq_map, List.countP_cons, List.countP_map]
    have e : ((fun j => x.testBit j) ∘ Nat.succ) = fun j => (x / 2).testBit j := by
      funext j
      simp only [Function.comp]
      rw [Nat.succ_eq_add_one, Nat.testBit_succ]
    rw [e]
    by_cases h : x % 2 = 1
    · rw [h, if_pos (by simp [Nat.testBit_zero, h])]
      omega
    · rw [if_neg (by simp [Nat.testBit_zero, h])]
      omega
theorem bits_and_nat (a b : Nat) (ha : a < 18446744073709551616) (hb : b < 18446744073709551616) : Go.bits .and .u64 (a : Int) (b : Int) = ((a &&& b : Nat) : Int) := by
  have h := bits_and_bv (BitVec.ofNat 64 a) (BitVec.ofNat 64 b)
  rw [BitVec.toNat_and, BitVec.toNat_ofNat, BitVec.toNat_ofNat, Nat.mod_eq_of_lt ha, Nat.mod_eq_of_lt hb] at h
  exact h
theorem bits_and_127 (s : Nat) (h : s < 9223372036854775808) : Go.bits .and .i64 (wrap64 (s : Int)) 127 = ((s % 128 : Nat) : Int) := by
  rw [wrap_id (by omega) (by omega)]
  show IntKind.i64.wrap ((BitVec.ofInt 64 (s : Int) &&& BitVec.ofInt 64 127).toNat : Int) = _
  have e : (BitVec.ofInt 64 (s : Int) &&& BitVec.ofInt 64 127).toNat = s % 128 := by
    rw [BitVec.ofInt_natCast, show BitVec.ofInt 64 127 = BitVec.ofNat 64 127 from rfl, BitVec.toNat_and, BitVec.toNat_ofNat, BitVec.toNat_ofNat, Nat.mod_eq_of_lt (show s < 2 ^ 64 by omega), Nat.mod_eq_of_lt (show 127 < 2 ^ 64 by decide), show (127 : Nat) = 2 ^ 7 - 1 from rfl, Nat.and_two_pow_sub_one_eq_mod]
  rw [e]
  simp only [i64_w]
  exact wrap_id (x := ((s % 128 : Nat) : Int)) (by omega) (by omega)
theorem uwrap_id (n : Nat) (h : n < 18446744073709551616) : IntKind.u64.wrap (n : Int) = (n : Int) := by
  rw [wrap_u64_]
  omega
theorem num_lt (w : Nat) : ∀ (l : List Nat), (∀ x ∈ l, x < 2 ^ w) → num w l < 2 ^ (w * l.length)
  | [], _ => by simp [num]
  | a :: r, hl => by
    have ha := hl a (by simp)
    have ih := num_lt w r (fun x hx => hl x (List.mem_cons_of_mem _ hx))
    rw [num, List.length_cons, Nat.mul_add, Nat.mul_one, Nat.add_comm (w * r.length) w, Nat.pow_add]
    calc a + 2 ^ w * num w r < 2 ^ w + 2 ^ w * num w r := by omega
      _ = 2 ^ w * (num w r + 1) := by rw [Nat.mul_add, Nat.mul_one, Nat.add_comm]
      _ ≤ 2 ^ w * 2 ^ (w * r.length) := Nat.mul_le_mul_left _ ih
theorem low_sum (p : List Nat) (hp : p.length = 8) (hl : ∀ x ∈ p, x ≤ 8) (y s1 s2 s3 : Nat) (hy : y = num 8 p) (h1 : s1 = y + y / 256) (h2 : s2 = s1 + s1 / 65536) (h3 : s3 = s2 + s2 / 4294967296) : s1 < 9223372036854775808 ∧ s2 < 9223372036854775808 ∧ s3 < 9223372036854775808 ∧ s3 % 128 = p.sum := by
  match p, hp with
  | [a, b, c, d, e, f, g, h], _ =>
    have := hl a (by simp); have := hl b (by simp); have := hl c (by simp); have := hl d (by simp)
    have := hl e (by simp); have := hl f (by simp); have := hl g (by simp); have := hl h (by simp)
    have hy2 : y = a + 256 * (b + 256 * (c + 256 * (d + 256 * (e + 256 * (f + 256 * (g + 256 * (h + 256 * 0))))))) := hy
    have hs : [a, b, c, d, e, f, g, h].sum = a + (b + (c + (d + (e + (f + (g + (h + 0))))))) := rfl
    rw [hs]
    clear hs
    have q1 : y / 256 = b + 256 * (c + 256 * (d + 256 * (e + 256 * (f + 256 * (g + 256 * h))))) := by omega
    have r1 : s1 = (a + b) + 256 * ((b + c) + 256 * ((c + d) + 256 * ((d + e) + 256 * ((e + f) + 256 * ((f + g) + 256 * ((g + h) + 256 * h)))))) := by omega
    clear h1 q1 hy2 hy
    have q2 : s1 / 65536 = (c + d) + 256 * ((d + e) + 256 * ((e + f) + 256 * ((f + g) + 256 * ((g + h) + 256 * h)))) := by omega
    have r2 : s2 = (a + b + c + d) + 256 * ((b + c + d + e) + 256 * ((c + d + e + f) + 256 * ((d + e + f + g) + 256 * ((e + f + g + h) + 256 * ((f + g + h) + 256 * ((g + h) + 256 * h)))))) := by omega
    have z1 : s1 < 9223372036854775808 := by omega
    clear h2 q2 r1
    have q3 : s2 / 4294967296 = (e + f + g + h) + 256 * ((f + g + h) + 256 * ((g + h) + 256 * h)) := by omega
    have r3 : s3 = (a + b + c + d + e + f + g + h) + 256 * ((b + c + d + e + f + g + h) + 256 * ((c + d + e + f + g + h) + 256 * ((d + e + f + g + h) + 256 * ((e + f + g + h) + 256 * ((f + g + h) + 256 * ((g + h) + 256 * h)))))) := by omega
    have z2 : s2 < 9223372036854775808 := by omega
    clear h3 q3 r2
    refine ⟨z1, z2, by omega, by omega⟩
theorem onesCount (x : Nat) (hx : x < 18446744073709551616) : bits_OnesCount64.f (x : Int) = some (((List.range 64).countP fun j => x.testBit j : Nat) : Int) := by
  have hb := bitsOf_length 64 x
  have hb1 := bitsOf_le 64 x
  have hb2 := num_bitsOf 64 x hx
  generalize hl : bitsOf 64 x = l at hb hb1 hb2
  have l1 : (pairUp l).length = 32 := pairUp_length 32 l hb
  have m1 := pairUp_le 1 l hb1
  have l2 : (pairUp (pairUp l)).length = 16 := pairUp_length 16 _ l1
  have m2 := pairUp_le 2 _ m1
  have l3 : (pairUp (pairUp (pairUp l))).length = 8 := pairUp_length 8 _ l2
  have m3 := pairUp_le 4 _ m2
  have b1 : num 2 (pairUp l) < 18446744073709551616 := by
    have := num_lt 2 (pairUp l) (fun z hz => by have := m1 z hz; omega)
    rw [l1] at this
    exact this
  have b2 : num 4 (pairUp (pairUp l)) < 18446744073709551616 := by
    have := num_lt 4 (pairUp (pairUp l)) (fun z hz => by have := m2 z hz; omega)
    rw [l2] at this
    exact this
  have v1 := level 1 32 l hb (fun z hz => by have := hb1 z hz; omega)
  have v2 := level 2 16 _ l1 (fun z hz => by have := m1 z hz; omega)
  have k1 : maskN 1 32 = 6148914691236517205 := by decide +kernel
  have k2 : maskN 2 16 = 3689348814741910323 := by decide +kernel
  have k3 : maskN 4 8 = 1085102592571150095 := by decide +kernel
  rw [hb2, k1, show 2 ^ 1 = 2 from rfl, show 2 * 1 = 2 from rfl] at v1
  rw [k2, show 2 ^ 2 = 4 from rfl, show 2 * 2 = 4 from rfl] at v2
  have hadj : ∀ z ∈ adj (pairUp (pairUp l)), z < 2 ^ 4 := fun z hz => by have := adj_le 4 _ m2 z hz; omega
  have v3 := land_evs 4 8 (adj (pairUp (pairUp l))) (by rw [adj_length, l2]) hadj
  rw [evs_adj 8 _ l2, k3, num_adj 4 _ (fun z hz => by have := m2 z hz; omega), show 2 ^ 4 = 16 from rfl, show 2 * 4 = 8 from rfl] at v3
  have ba : num 4 (pairUp (pairUp l)) / 16 + num 4 (pairUp (pairUp l)) < 18446744073709551616 := by
    have := num_lt 4 _ hadj
    rw [adj_length, l2, num_adj 4 _ (fun z hz => by have := m2 z hz; omega)] at this
    exact this
  have e1 : IntKind.u64.wrap ((Go.bits .and .u64 ((x : Int) / 2) 6148914691236517205) + (Go.bits .and .u64 (x : Int) 6148914691236517205)) = (num 2 (pairUp l) : Int) := by
    rw [show (x : Int) / 2 = ((x / 2 : Nat) : Int) by omega, show (6148914691236517205 : Int) = ((6148914691236517205 : Nat) : Int) from rfl, bits_and_nat _ _ (by omega) (by decide), bits_and_nat _ _ hx (by decide), ← Int.natCast_add, v1]
    exact uwrap_id _ b1
  generalize num 2 (pairUp l) = n1 at *
  have e2 : IntKind.u64.wrap ((Go.bits .and .u64 ((n1 : Int) / 4) 3689348814741910323) + (Go.bits .and .u64 (n1 : Int) 3689348814741910323)) = (num 4 (pairUp (pairUp l)) : Int) := by
    rw [show (n1 : Int) / 4 = ((n1 / 4 : Nat) : Int) by omega, show (3689348814741910323 : Int) = ((3689348814741910323 : Nat) : Int) from rfl, bits_and_nat _ _ (by omega) (by decide), bits_and_nat _ _ b1 (by decide), ← Int.natCast_add, v2]
    exact uwrap_id _ b2
  generalize num 4 (pairUp (pairUp l)) = n2 at *
  have e3 : Go.bits .and .u64 (IntKind.u64.wrap (((n2 : Int) / 16) + (n2 : Int))) 1085102592571150095 = (num 8 (pairUp (pairUp (pairUp l))) : Int) := by
    rw [show (n2 : Int) / 16 = ((n2 / 16 : Nat) : Int) by omega, ← Int.natCast_add, uwrap_id _ ba, show (1085102592571150095 : Int) = ((1085102592571150095 : Nat) : Int) from rfl, bits_and_nat _ _ ba (by decide), v3]
  obtain ⟨c1, c2, c3, c4⟩ := low_sum _ l3 (fun z hz => by have := m3 z hz; omega) _ _ _ _ rfl rfl rfl rfl
  generalize num 8 (pairUp (pairUp (pairUp l))) = y at *
  unfold bits_OnesCount64.f
  rw [e1, e2, e3, show (y : Int) + (y : Int) / 256 = ((y + y / 256 : Nat) : Int) by omega, uwrap_id _ (by omega)]
  generalize y + y / 256 = s1 at *
  rw [show (s1 : Int) + (s1 : Int) / 65536 = ((s1 + s1 / 65536 : Nat) : Int) by omega, uwrap_id _ (by omega)]
  generalize s1 + s1 / 65536 = s2 at *
  rw [show (s2 : Int) + (s2 : Int) / 4294967296 = ((s2 + s2 / 4294967296 : Nat) : Int) by omega, uwrap_id _ (by omega), bits_and_127 _ c3, c4, pairUp_sum 8 _ l2, pairUp_sum 16 _ l1, pairUp_sum 32 _ hb, ← hl, bitsOf_sum]

theorem equalInts_l0 (xs ys : List Int) (hl : xs.length = ys.length) (hn : xs.length ≤ 9223372036854775807) : ∀ (zs us : List Int) (i : Nat), xs.drop i = zs → ys.drop i = us → Ev (fun k => spec_EqualInts.l0 k xs ys (i : Int)) (decide (zs = us)) := by
  intro zs
  induction zs with
  | nil =>
    intro us i h hu
    have := at_end h
    refine Ev.step (fun k => by rw [spec_EqualInts.l0]) ?_
    rw [List.drop_of_length_le (by omega)] at hu
    subst hu
    exact ev_neg (by omega) (ev_eq (Ev.now _) (by simp))
  | cons z zs ih =>
    intro us i h hu
    obtain ⟨hlt, hz, h2, _⟩ := at_drop h
    cases us with
    | nil => have := at_end hu; omega
    | cons u us =>
      obtain ⟨_, hzu, hu2, _⟩ := at_drop hu
      refine Ev.step (fun k => by rw [spec_EqualInts.l0]) ?_
      refine ev_pos (by omega) (ev_pos (by omega) (ev_pos (by omega) ?_))
      rw [wrap_id (by omega) (by omega), rd_get hz, rd_get hzu]
      refine ev_ite (fun e => ev_eq (ih us (i + 1) h2 hu2) ?_) (fun e => ev_eq (Ev.now _) ?_)
      · simp [e]
      · simp [e]
theorem equalInts_ev (xs ys : List Int) (hn : xs.length ≤ 9223372036854775807) : Ev (fun k => spec_EqualInts.f k xs ys) (decide (xs = ys)) := by
  unfold spec_EqualInts.f
  refine ev_ite (fun e => equalInts_l0 xs ys (by omega) hn xs ys 0 rfl rfl) (fun e => ev_eq (Ev.now _) ?_)
  have : xs ≠ ys := by rintro rfl; exact e rfl
  simp [this]
/-- The place of the first row that is f. -/
def rowAt (f : List Int) : List (List Int) → Nat → Int
  | [], _ => -1
  | r :: rs, i => if r = f then i else rowAt f rs (i + 1)
theorem rowAt_bound (f : List Int) : ∀ (rs : List (List Int)) (i : Nat), rowAt f rs i = -1 ∨ (i : Int) ≤ rowAt f rs i ∧ rowAt f rs i < i + rs.length := by
  intro rs
  induction rs with
  | nil => intro i; exact .inl rfl
  | cons r rs ih =>
    intro i
    unfold rowAt
    split
    · right; simp; omega
    · rcases ih (i + 1) with h | h
      · exact .inl h
      · right; simp only [List.length_cons]; omega
theorem l12Find_l0 (xs : List (List Int)) (f : List Int) (hn : xs.length ≤ 9223372036854775807) (hi : ∀ y ∈ xs, y.length ≤ 9223372036854775807) : ∀ (zs : List (List Int)) (i : Nat), xs.drop i = zs → Ev (fun k => spec_l12Find.l0 k xs f (i : Int)) (rowAt f zs i) := by
  intro zs
  induction zs with
  | nil =>
    intro i h
    have := at_end h
    refine Ev.step (fun k => by rw [spec_l12Find.l0]) ?_
    exact ev_neg (by omega) (Ev.now _)
  | cons z zs ih =>
    intro i h
    obtain ⟨hlt, hz, h2, _⟩ := at_drop h
    have hr : rd_L1 xs (i : Int) = z := getD_at hz
    refine Ev.step (fun k => by rw [spec_l12Find.l0]) ?_
    rw [hr, wrap_id (by omega) (by omega)]
    refine ev_pos (by omega) (ev_pos (by omega) (Ev.bind (equalInts_ev z f (hi z (List.mem_of_getElem? hz))) ?_))
    unfold rowAt
    by_cases e : z = f
    · rw [if_pos e]
      exact ev_pos (by simp [e]) (Ev.now _)
    · rw [if_neg e]
      exact ev_neg (by simp [e]) (ih (i + 1) h2)
theorem l12Find_ev (xs : List (List Int)) (f : List Int) (hn : xs.length ≤ 9223372036854775807) (hi : ∀ y ∈ xs, y.length ≤ 9223372036854775807) : Ev (fun k => spec_l12Find.f k xs f) (rowAt f xs 0) := by
  unfold spec_l12Find.f
  exact l12Find_l0 xs f hn hi xs 0 rfl
theorem rowsAlike_l0 (xs ys : List Int) (hl : xs.length = ys.length) (hn : xs.length ≤ 9223372036854775807) : ∀ (zs us : List Int) (i : Nat), xs.drop i = zs → ys.drop i = us → Ev (fun k => rowsAlike.l0 k xs ys xs.length (i : Int)) (decide (zs = us)) := by
  intro zs
  induction zs with
  | nil =>
    intro us i h hu
    have := at_end h
    refine Ev.step (fun k => by rw [rowsAlike.l0]) ?_
    rw [List.drop_of_length_le (by omega)] at hu
    subst hu
    exact ev_neg (by omega) (ev_eq (Ev.now _) (by simp))
  | cons z zs ih =>
    intro us i h hu
    obtain ⟨hlt, hz, h2, _⟩ := at_drop h
    cases us with
    | nil => have := at_end hu; omega
    | cons u us =>
      obtain ⟨_, hzu, hu2, _⟩ := at_drop hu
      refine Ev.step (fun k => by rw [rowsAlike.l0]) ?_
      refine ev_pos (by omega) (ev_pos (by omega) (ev_pos (by omega) (ev_pos (by omega) ?_)))
      rw [wrap_id (by omega) (by omega), rd_get hz, rd_get hzu]
      refine ev_ite (fun e => ev_eq (ih us (i + 1) h2 hu2) ?_) (fun e => ev_eq (Ev.now _) ?_)
      · simp [e]
      · simp [e]
theorem rowsAlike_ev (xs ys : List Int) (hn : xs.length ≤ 9223372036854775807) : Ev (fun k => rowsAlike.f k xs ys) (decide (xs = ys)) := by
  unfold rowsAlike.f
  refine ev_ite (fun e => rowsAlike_l0 xs ys (by omega) hn xs ys 0 rfl rfl) (fun e => ev_eq (Ev.now _) ?_)
  have : xs ≠ ys := by rintro rfl; exact e rfl
  simp [this]
theorem formulaAt_l0 (xs : List (List Int)) (f : List Int) (hn : xs.length ≤ 9223372036854775807) (hi : ∀ y ∈ xs, y.length ≤ 9223372036854775807) : ∀ (zs : List (List Int)) (i : Nat), xs.drop i = zs → Ev (fun k => impl_formulaAt.l0 k xs f (i : Int)) (rowAt f zs i) := by
  intro zs
  induction zs with
  | nil =>
    intro i h
    have := at_end h
    refine Ev.step (fun k => by rw [impl_formulaAt.l0]) ?_
    exact ev_neg (by omega) (Ev.now _)
  | cons z zs ih =>
    intro i h
    obtain ⟨hlt, hz, h2, _⟩ := at_drop h
    have hr : rd_L1 xs (i : Int) = z := getD_at hz
    refine Ev.step (fun k => by rw [impl_formulaAt.l0]) ?_
    rw [hr, wrap_id (by omega) (by omega)]
    refine ev_pos (by omega) (ev_pos (by omega) (Ev.bind (rowsAlike_ev z f (hi z (List.mem_of_getElem? hz))) ?_))
    unfold rowAt
    by_cases e : z = f
    · rw [if_pos e]
      exact ev_pos (by simp [e]) (Ev.now _)
    · rw [if_neg e]
      exact ev_neg (by simp [e]) (ih (i + 1) h2)
theorem formulaAt_ev (xs : List (List Int)) (f : List Int) (hn : xs.length ≤ 9223372036854775807) (hi : ∀ y ∈ xs, y.length ≤ 9223372036854775807) : Ev (fun k => impl_formulaAt.f k xs f) (rowAt f xs 0) := by
  unfold impl_formulaAt.f
  exact formulaAt_l0 xs f hn hi xs 0 rfl
def canHoldB (xs : List (List Int)) : Bool := xs.all isFormula && (List.range 64).any (fun j => xs.all (rowVal j))
/-- No row among the first ones is the row at i. -/
def freshAt (xs : List (List Int)) (i : Nat) : Bool := decide (rowAt (xs.getD i []) (xs.take i) 0 < 0)
def isStore (xs : List (List Int)) : Bool := (List.range xs.length).all (freshAt xs) && (decide (xs.length ≤ 12) && canHoldB xs)
theorem isStore_l0 (xs : List (List Int)) (hn : xs.length ≤ 1048576) (hi : ∀ y ∈ xs, y.length ≤ 1048576) : ∀ (d i : Nat), i + d = xs.length → Ev (fun k => spec_IsStore.l0 k xs (i : Int)) ((List.range d).all (fun j => freshAt xs (i + j)) && (decide (xs.length ≤ 12) && canHoldB xs)) := by
  intro d
  induction d with
  | zero =>
    intro i h
    refine Ev.step (fun k => by rw [spec_IsStore.l0]) ?_
    refine ev_neg (by omega) (ev_ite (fun e => Ev.bind (canHold_spec xs hn hi) (ev_eq (Ev.now _) ?_)) (fun e => ev_eq (Ev.now _) ?_))
    · rw [show decide (xs.length ≤ 12) = true by simp; omega]
      simp [canHoldB]
    · rw [show decide (xs.length ≤ 12) = false by simp; omega]
      simp
  | succ d ih =>
    intro i h
    refine Ev.step (fun k => by rw [spec_IsStore.l0]) ?_
    have hrd : rd_L1 xs (i : Int) = xs.getD i [] := by unfold rd_L1; rw [Int.toNat_natCast]
    have hl : (xs.take i).length ≤ 9223372036854775807 := by rw [List.length_take]; omega
    have hli : ∀ y ∈ xs.take i, y.length ≤ 9223372036854775807 := fun y hy => Nat.le_trans (hi y (List.mem_of_mem_take hy)) (by decide)
    rw [hrd, Int.toNat_natCast, wrap_id (by omega) (by omega), List.range_succ_eq_map, List.all_cons, List.all_map]
    have e2 : ((fun j => freshAt xs (i + j)) ∘ Nat.succ) = fun j => freshAt xs (i + 1 + j) := by
      funext j
      simp only [Function.comp]
      rw [show i + j.succ = i + 1 + j by omega]
    rw [e2, show i + 0 = i from rfl]
    refine ev_pos (by omega) (ev_pos (by omega) (ev_pos (by omega) (Ev.bind (l12Find_ev _ _ hl hli) (ev_ite (fun e => ev_eq (Ev.now _) ?_) (fun e => ev_eq (ih (i + 1) (by omega)) ?_)))))
    · rw [show freshAt xs i = false from decide_eq_false (by omega)]
      simp
    · rw [show freshAt xs i = true from decide_eq_true (by omega), Bool.true_and]
theorem isStore_spec (xs : List (List Int)) (hn : xs.length ≤ 1048576) (hi : ∀ y ∈ xs, y.length ≤ 1048576) : Ev (fun k => spec_IsStore.f k xs) (isStore xs) := by
  unfold spec_IsStore.f isStore
  refine ev_eq (isStore_l0 xs hn hi xs.length 0 (by omega)) ?_
  simp
theorem isStore_len {xs : List (List Int)} (h : isStore xs = true) : xs.length ≤ 12 ∧ canHoldB xs = true := by
  unfold isStore at h
  simp only [Bool.and_eq_true, decide_eq_true_eq] at h
  exact h.2
theorem isStoreI_l0 (xs : List (List Int)) (hn : xs.length ≤ 1048576) (hi : ∀ y ∈ xs, y.length ≤ 1048576) : ∀ (d i : Nat), i + d = xs.length → Ev (fun k => impl_IsStore.l0 k xs xs xs.length (i : Int)) ((List.range d).all (fun j => freshAt xs (i + j))) := by
  intro d
  induction d with
  | zero =>
    intro i h
    refine Ev.step (fun k => by rw [impl_IsStore.l0]) ?_
    exact ev_neg (by omega) (ev_eq (Ev.now _) (by simp))
  | succ d ih =>
    intro i h
    refine Ev.step (fun k => by rw [impl_IsStore.l0]) ?_
    have hrd : rd_L1 xs (i : Int) = xs.getD i [] := by unfold rd_L1; rw [Int.toNat_natCast]
    have hl : (xs.take i).length ≤ 9223372036854775807 := by rw [List.length_take]; omega
    have hli : ∀ y ∈ xs.take i, y.length ≤ 9223372036854775807 := fun y hy => Nat.le_trans (hi y (List.mem_of_mem_take hy)) (by decide)
    rw [hrd, Int.toNat_natCast, wrap_id (by omega) (by omega), List.range_succ_eq_map, List.all_cons, List.all_map]
    have e2 : ((fun j => freshAt xs (i + j)) ∘ Nat.succ) = fun j => freshAt xs (i + 1 + j) := by
      funext j
      simp only [Function.comp]
      rw [show i + j.succ = i + 1 + j by omega]
    rw [e2, show i + 0 = i from rfl]
    refine ev_pos (by omega) (ev_pos (by omega) (ev_pos (by omega) (ev_pos (by omega) (Ev.bind (formulaAt_ev _ _ hl hli) (ev_ite (fun e => ev_eq (Ev.now _) ?_) (fun e => ev_eq (ih (i + 1) (by omega)) ?_))))))
    · rw [show freshAt xs i = false from decide_eq_false (by omega)]
      simp
    · rw [show freshAt xs i = true from decide_eq_true (by omega), Bool.true_and]
theorem isStore_impl (xs : List (List Int)) (hn : xs.length ≤ 1048576) (hi : ∀ y ∈ xs, y.length ≤ 1048576) : Ev (fun k => impl_IsStore.f k xs) (isStore xs) := by
  have hj : ∀ b : Bool, Ev (fun k => impl_IsStore.j0 k xs b) (!b && (List.range xs.length).all (freshAt xs)) := by
    intro b
    refine Ev.step (fun k => by rw [impl_IsStore.j0]) ?_
    cases b with
    | true => exact ev_pos rfl (ev_eq (Ev.now _) rfl)
    | false =>
      refine ev_neg (by decide) (ev_eq (isStoreI_l0 xs hn hi xs.length 0 (by omega)) ?_)
      simp
  unfold impl_IsStore.f isStore
  refine ev_ite (fun e => ev_eq (hj true) ?_) (fun e => Ev.bind (canHold_impl xs hn hi) (ev_eq (hj _) ?_))
  · rw [show decide (xs.length ≤ 12) = false by simp; omega]
    simp
  · rw [show decide (xs.length ≤ 12) = true by simp; omega, Bool.true_and, Bool.not_not, Bool.and_comm]
    rfl

def cntF (xs : List (List Int)) (m : Nat) : Nat := xs.countP fun g => !rowVal m g
def pcN (μ : Nat) : Nat := (List.range 64).countP fun j => μ.testBit j
def specFold (xs : List (List Int)) (f : List Int) : Nat → Nat → Int → Int
  | 0, _, b => b
  | d + 1, m, b => specFold xs f d (m + 1) (if rowVal m f then (if (cntF xs m : Int) < b then (cntF xs m : Int) else b) else b)
def goodB (xs : List (List Int)) (f : List Int) (μ : Nat) : Bool := (List.range 64).any fun m => rowVal m f && (List.range xs.length).all fun i => μ.testBit i || rowVal m (xs.getD i [])
def updB (g : Bool) (p b : Int) : Int := if g then (if b < 0 then p else if p < b then p else b) else b
def implFold (xs : List (List Int)) (f : List Int) : Nat → Nat → Int → Int
  | 0, _, b => b
  | d + 1, μ, b => implFold xs f d (μ + 1) (updB (goodB xs f μ) (pcN μ) b)
theorem specFold_char (xs : List (List Int)) (f : List Int) : ∀ (d m : Nat) (b : Int), specFold xs f d m b ≤ b ∧ (∀ j, m ≤ j → j < m + d → rowVal j f = true → specFold xs f d m b ≤ cntF xs j) ∧ (specFold xs f d m b = b ∨ ∃ j, m ≤ j ∧ j < m + d ∧ rowVal j f = true ∧ specFold xs f d m b = cntF xs j) := by
  intro d
  induction d with
  | zero => intro m b; exact ⟨Int.le_refl _, fun j h1 h2 => by omega, .inl rfl⟩
  | succ d ih =>
    intro m b
    unfold specFold
    obtain ⟨h1, h2, h3⟩ := ih (m + 1) (if rowVal m f then (if (cntF xs m : Int) < b then (cntF xs m : Int) else b) else b)
    generalize specFold xs f d (m + 1) (if rowVal m f then (if (cntF xs m : Int) < b then (cntF xs m : Int) else b) else b) = r at h1 h2 h3
    cases hm : rowVal m f with
    | false =>
      rw [hm, if_neg (by decide)] at h1 h3
      refine ⟨h1, fun j a c e => ?_, ?_⟩
      · by_cases hj : j = m
        · subst hj; rw [hm] at e; exact absurd e (by decide)
        · exact h2 j (by omega) (by omega) e
      · rcases h3 with h3 | ⟨j, a, c, e, q⟩
        · exact .inl h3
        · exact .inr ⟨j, by omega, by omega, e, q⟩
    | true =>
      rw [hm, if_pos rfl] at h1 h3
      have hb : r ≤ b ∧ r ≤ cntF xs m := by split at h1 <;> omega
      refine ⟨hb.1, fun j a c e => ?_, ?_⟩
      · by_cases hj : j = m
        · subst hj; exact hb.2
        · exact h2 j (by omega) (by omega) e
      · rcases h3 with h3 | ⟨j, a, c, e, q⟩
        · split at h3
          · exact .inr ⟨m, by omega, by omega, hm, h3⟩
          · exact .inl h3
        · exact .inr ⟨j, by omega, by omega, e, q⟩
theorem implFold_char (xs : List (List Int)) (f : List Int) : ∀ (d μ : Nat) (b : Int), (b = -1 ∨ 0 ≤ b) → (b ≠ -1 → implFold xs f d μ b ≠ -1 ∧ implFold xs f d μ b ≤ b) ∧ (∀ j, μ ≤ j → j < μ + d → goodB xs f j = true → implFold xs f d μ b ≠ -1 ∧ implFold xs f d μ b ≤ pcN j) ∧ (implFold xs f d μ b = b ∨ ∃ j, μ ≤ j ∧ j < μ + d ∧ goodB xs f j = true ∧ implFold xs f d μ b = pcN j) := by
  intro d
  induction d with
  | zero => intro m b _; exact ⟨fun h => ⟨h, Int.le_refl _⟩, fun j h1 h2 => by omega, .inl rfl⟩
  | succ d ih =>
    intro μ b hb
    unfold implFold
    have hu : updB (goodB xs f μ) (pcN μ) b = -1 ∨ 0 ≤ updB (goodB xs f μ) (pcN μ) b := by
      unfold updB
      split
      · split
        · omega
        · split <;> omega
      · exact hb
    obtain ⟨h1, h2, h3⟩ := ih (μ + 1) _ hu
    generalize implFold xs f d (μ + 1) (updB (goodB xs f μ) (pcN μ) b) = r at h1 h2 h3
    cases hg : goodB xs f μ with
    | false =>
      have e : updB (goodB xs f μ) (pcN μ) b = b := by rw [hg]; rfl
      rw [e] at h1 h3
      refine ⟨h1, fun j a c q => ?_, ?_⟩
      · by_cases hj : j = μ
        · subst hj; rw [hg] at q; exact absurd q (by decide)
        · exact h2 j (by omega) (by omega) q
      · rcases h3 with h3 | ⟨j, a, c, e, q⟩
        · exact .inl h3
        · exact .inr ⟨j, by omega, by omega, e, q⟩
    | true =>
      have e : updB (goodB xs f μ) (pcN μ) b = if b < 0 then (pcN μ : Int) else if (pcN μ : Int) < b then (pcN μ : Int) else b := by rw [hg]; rfl
      have hv : updB (goodB xs f μ) (pcN μ) b ≠ -1 ∧ updB (goodB xs f μ) (pcN μ) b ≤ pcN μ ∧ (b ≠ -1 → updB (goodB xs f μ) (pcN μ) b ≤ b) ∧ (updB (goodB xs f μ) (pcN μ) b = b ∨ updB (goodB xs f μ) (pcN μ) b = pcN μ) := by
        rw [e]
        split
        · refine ⟨by omega, by omega, fun _ => by omega, .inr rfl⟩
        · split
          · refine ⟨by omega, by omega, fun _ => by omega, .inr rfl⟩
          · refine ⟨by omega, by omega, fun _ => by omega, .inl rfl⟩
      obtain ⟨v1, v2, v3, v4⟩ := hv
      have h11 := h1 v1
      refine ⟨fun hb1 => ⟨h11.1, Int.le_trans h11.2 (v3 hb1)⟩, fun j a c q => ?_, ?_⟩
      · by_cases hj : j = μ
        · subst hj; exact ⟨h11.1, Int.le_trans h11.2 v2⟩
        · exact h2 j (by omega) (by omega) q
      · rcases h3 with h3 | ⟨j, a, c, e, q⟩
        · rcases v4 with v4 | v4
          · exact .inl (h3.trans v4)
          · exact .inr ⟨μ, by omega, by omega, hg, h3.trans v4⟩
        · exact .inr ⟨j, by omega, by omega, e, q⟩
theorem lbS_l1 (xs : List (List Int)) (f : List Int) (b : Int) (m : Nat) (hm : m < 64) (hn : xs.length ≤ 1048576) (hi : ∀ y ∈ xs, y.length ≤ 1048576) (R : Int) : ∀ (zs : List (List Int)) (i c : Nat), xs.drop i = zs → c ≤ i → Ev (fun k => spec_LeastBack.l0 k xs f (if ((c + cntF zs m : Nat) : Int) < b then ((c + cntF zs m : Nat) : Int) else b) ((m + 1 : Nat) : Int)) R → Ev (fun k => spec_LeastBack.l1 k xs f b (m : Int) (c : Int) (i : Int)) R := by
  intro zs
  induction zs with
  | nil =>
    intro i c h _ hR
    have := at_end h
    refine Ev.step (fun k => by rw [spec_LeastBack.l1]) ?_
    refine ev_neg (by omega) ?_
    rw [wrap_id (by omega) (by omega)]
    refine ev_bind0 (show spec_Min.f b (c : Int) = some (if (c : Int) < b then (c : Int) else b) from by unfold spec_Min.f; split <;> rfl) ?_
    exact hR
  | cons z zs ih =>
    intro i c h hc hR
    obtain ⟨hlt, hz, h2, _⟩ := at_drop h
    have hr : rd_L1 xs (i : Int) = z := getD_at hz
    have hzl := hi z (List.mem_of_getElem? hz)
    refine Ev.step (fun k => by rw [spec_LeastBack.l1]) ?_
    rw [hr, wrap_id (x := (i : Int) + 1) (by omega) (by omega), wrap_id (x := (c : Int) + 1) (by omega) (by omega)]
    refine ev_pos (by omega) (ev_pos (by omega) (Ev.bind (l11Row_ev m hm) (Ev.bind (value_row z m hm (by omega)) ?_)))
    have hcnt : cntF (z :: zs) m = cntF zs m + if rowVal m z then 0 else 1 := by
      unfold cntF
      rw [List.countP_cons]
      cases rowVal m z <;> simp
    rw [hcnt] at hR
    refine ev_ite (fun e => ih (i + 1) c h2 (by omega) ?_) (fun e => ih (i + 1) (c + 1) h2 (by omega) ?_)
    · rw [if_pos e, Nat.add_zero] at hR; exact hR
    · rw [if_neg e] at hR
      rw [show c + 1 + cntF zs m = c + (cntF zs m + 1) by omega]
      exact hR
theorem lbS_l0 (xs : List (List Int)) (f : List Int) (hf : f.length ≤ 1048576) (hn : xs.length ≤ 1048576) (hi : ∀ y ∈ xs, y.length ≤ 1048576) : ∀ (d m : Nat) (b : Int), m + d = 64 → Ev (fun k => spec_LeastBack.l0 k xs f b (m : Int)) (specFold xs f d m b) := by
  intro d
  induction d with
  | zero =>
    intro m b h
    refine Ev.step (fun k => by rw [spec_LeastBack.l0]) ?_
    exact ev_neg (by omega) (Ev.now _)
  | succ d ih =>
    intro m b h
    refine Ev.step (fun k => by rw [spec_LeastBack.l0]) ?_
    refine ev_pos (by omega) (Ev.bind (l11Row_ev m (by omega)) (Ev.bind (value_row f m (by omega) (by omega)) ?_))
    unfold specFold
    refine ev_ite (fun e => ?_) (fun e => ?_)
    · rw [if_pos e]
      refine lbS_l1 xs f b m (by omega) hn hi _ xs 0 0 rfl (by omega) ?_
      rw [Nat.zero_add]
      exact ih (m + 1) _ (by omega)
    · rw [if_neg e, wrap_id (by omega) (by omega)]
      exact ih (m + 1) _ (by omega)
theorem bits_and_1 (n : Nat) (h : n < 9223372036854775808) : Go.bits .and .i64 (n : Int) 1 = ((n % 2 : Nat) : Int) := by
  show IntKind.i64.wrap ((BitVec.ofInt 64 (n : Int) &&& BitVec.ofInt 64 1).toNat : Int) = _
  have e : (BitVec.ofInt 64 (n : Int) &&& BitVec.ofInt 64 1).toNat = n % 2 := by
    rw [BitVec.ofInt_natCast, show BitVec.ofInt 64 1 = BitVec.ofNat 64 1 from rfl, BitVec.toNat_and, BitVec.toNat_ofNat, BitVec.toNat_ofNat, Nat.mod_eq_of_lt (show n < 2 ^ 64 by omega), Nat.mod_eq_of_lt (show 1 < 2 ^ 64 by decide), Nat.and_one_is_mod]
  rw [e]
  simp only [i64_w]
  exact wrap_id (x := ((n % 2 : Nat) : Int)) (by omega) (by omega)
theorem bit_test (μ i : Nat) (hμ : μ < 9223372036854775808) (hi : i < 64) : (Go.bits .and .i64 (shr .i64 (μ : Int) (i : Int)) 1 = 0) ↔ μ.testBit i = false := by
  have h1 : shr .i64 (μ : Int) (i : Int) = ((μ / 2 ^ i : Nat) : Int) := by
    unfold shr
    rw [Int.toNat_natCast, show min i IntKind.i64.bits = i from Nat.min_eq_left (by show i ≤ 64; omega)]
    simp
  have h2 : μ / 2 ^ i ≤ μ := Nat.div_le_self _ _
  rw [h1, bits_and_1 _ (by omega), Nat.testBit_eq_decide_div_mod_eq, decide_eq_false_iff_not]
  omega
theorem shl_len : ∀ n : Fin 13, shl .i64 1 ((n.val : Nat) : Int) = ((2 ^ n.val : Nat) : Int) := by decide +kernel
theorem lbI_l1 (xs : List (List Int)) (bv : BitVec 64) (b : Int) (N μ : Nat) (hμ : μ < 4096) (hn : xs.length ≤ 12) (hi : ∀ y ∈ xs, y.length ≤ 1048576) (hok : xs.all isFormula = true) : ∀ (zs : List (List Int)) (i : Nat) (a : BitVec 64), xs.drop i = zs →
    ∃ c : BitVec 64, (∀ m, m < 64 → c.getLsbD m = (a.getLsbD m && (List.range zs.length).all fun j => μ.testBit (i + j) || rowVal m (xs.getD (i + j) []))) ∧ ∀ R, Ev (fun k => impl_LeastBack.l0 k xs (bv.toNat : Int) (updB (decide (c ≠ 0#64)) (pcN μ) b) (N : Int) ((μ + 1 : Nat) : Int)) R → Ev (fun k => impl_LeastBack.l1 k xs (bv.toNat : Int) b (μ : Int) (a.toNat : Int) (N : Int) (μ : Int) xs xs.length (i : Int)) R := by
  intro zs
  induction zs with
  | nil =>
    intro i a h
    have := at_end h
    refine ⟨a, fun m hm => by simp, fun R hR => Ev.step (fun k => by rw [impl_LeastBack.l1]) ?_⟩
    refine ev_neg (by omega) ?_
    rw [uwrap_id μ (by omega)]
    refine ev_bind0 (show bits_OnesCount.f (μ : Int) = some (pcN μ : Int) from by unfold bits_OnesCount.f; rw [onesCount μ (by omega)]; rfl) ?_
    rw [wrap_id (x := (μ : Int) + 1) (by omega) (by omega)]
    unfold updB at hR
    by_cases ha : a = 0#64
    · subst ha
      rw [if_neg (by decide)] at hR
      exact ev_pos rfl hR
    · rw [if_pos (decide_eq_true ha)] at hR
      refine ev_neg (fun h0 => ha (BitVec.eq_of_toNat_eq (by simpa using h0))) (ev_ite (fun e => ?_) (fun e => ev_ite (fun e2 => ?_) (fun e2 => ?_)))
      · rw [if_pos e] at hR; exact hR
      · rw [if_neg e, if_pos e2] at hR; exact hR
      · rw [if_neg e, if_neg e2] at hR; exact hR
  | cons z zs ih =>
    intro i a h
    obtain ⟨hlt, hz, h2, _⟩ := at_drop h
    have hr : rd_L1 xs (i : Int) = z := getD_at hz
    have hzg : xs.getD i [] = z := by rw [List.getD_eq_getElem?_getD, hz]; rfl
    have hzm := List.mem_of_getElem? hz
    have hzl := hi z hzm
    have hzf : isFormula z = true := List.all_eq_true.1 hok z hzm
    obtain ⟨bz, hbz, hbz2⟩ := rowsOf_rows z (by omega)
    have hall : ∀ m, ((List.range (zs.length + 1)).all fun j => μ.testBit (i + j) || rowVal m (xs.getD (i + j) [])) = ((μ.testBit i || rowVal m z) && (List.range zs.length).all fun j => μ.testBit (i + 1 + j) || rowVal m (xs.getD (i + 1 + j) [])) := by
      intro m
      rw [List.range_succ_eq_map, List.all_cons, List.all_map, show i + 0 = i from rfl, hzg]
      congr 2
      funext j
      simp only [Function.comp]
      rw [show i + j.succ = i + 1 + j by omega]
    have hw : wrap64 ((i : Int) + 1) = ((i + 1 : Nat) : Int) := wrap_id (by omega) (by omega)
    cases ht : μ.testBit i with
    | false =>
      obtain ⟨c, hc, hR⟩ := ih (i + 1) (a &&& bz) h2
      refine ⟨c, fun m hm => ?_, fun R h0 => Ev.step (fun k => by rw [impl_LeastBack.l1]) ?_⟩
      · rw [hc m hm, List.length_cons, hall m, BitVec.getLsbD_and, hbz2 hzf m hm, ht, Bool.false_or, Bool.and_assoc]
      · rw [hr, hw]
        refine ev_pos (by omega) (ev_pos (by omega) (ev_pos (by omega) (ev_pos ((bit_test μ i (by omega) (by omega)).2 ht) (Ev.bind hbz ?_))))
        dsimp only
        rw [bits_and_bv]
        exact hR R h0
    | true =>
      obtain ⟨c, hc, hR⟩ := ih (i + 1) a h2
      refine ⟨c, fun m hm => ?_, fun R h0 => Ev.step (fun k => by rw [impl_LeastBack.l1]) ?_⟩
      · rw [hc m hm, List.length_cons, hall m, ht, Bool.true_or, Bool.true_and]
      · rw [hr, hw]
        refine ev_pos (by omega) (ev_pos (by omega) (ev_pos (by omega) (ev_neg (fun h0 => ?_) (hR R h0))))
        rw [(bit_test μ i (by omega) (by omega)).1 h0] at ht
        exact absurd ht (by decide)
theorem lbI_l0 (xs : List (List Int)) (f : List Int) (bv : BitVec 64) (hbv : ∀ m, m < 64 → bv.getLsbD m = rowVal m f) (N : Nat) (hN : N ≤ 4096) (hn : xs.length ≤ 12) (hi : ∀ y ∈ xs, y.length ≤ 1048576) (hok : xs.all isFormula = true) : ∀ (d μ : Nat) (b : Int), μ + d = N → Ev (fun k => impl_LeastBack.l0 k xs (bv.toNat : Int) b (N : Int) (μ : Int)) (implFold xs f d μ b) := by
  intro d
  induction d with
  | zero =>
    intro μ b h
    refine Ev.step (fun k => by rw [impl_LeastBack.l0]) ?_
    exact ev_neg (by omega) (Ev.now _)
  | succ d ih =>
    intro μ b h
    refine Ev.step (fun k => by rw [impl_LeastBack.l0]) ?_
    refine ev_pos (by omega) ?_
    obtain ⟨c, hc, hR⟩ := lbI_l1 xs bv b N μ (by omega) hn hi hok xs 0 bv rfl
    unfold implFold
    refine hR _ ?_
    have hg : decide (c ≠ 0#64) = goodB xs f μ := by
      rw [Bool.eq_iff_iff, decide_eq_true_eq]
      unfold goodB
      rw [List.any_eq_true]
      constructor
      · intro h0
        refine Classical.byContradiction fun hno => h0 (bv_ext64 fun m hm => ?_)
        rw [BitVec.getLsbD_zero]
        cases hcm : c.getLsbD m with
        | false => rfl
        | true =>
          refine absurd ⟨m, List.mem_range.2 hm, ?_⟩ hno
          rw [← hcm, hc m hm, hbv m hm]
          simp only [Nat.zero_add]
      · rintro ⟨m, hm, hm2⟩ h0
        have hcm := hc m (List.mem_range.1 hm)
        rw [h0, BitVec.getLsbD_zero, hbv m (List.mem_range.1 hm)] at hcm
        simp only [Nat.zero_add] at hcm
        rw [← hcm] at hm2
        exact absurd hm2 (by decide)
    rw [hg]
    exact ih (μ + 1) _ (by omega)
theorem exists_mask (p : Nat → Bool) : ∀ n : Nat, ∃ μ, μ < 2 ^ n ∧ ∀ i, i < n → μ.testBit i = p i := by
  intro n
  induction n generalizing p with
  | zero => exact ⟨0, by decide, fun i h => by omega⟩
  | succ n ih =>
    obtain ⟨μ, h1, h2⟩ := ih (fun i => p (i + 1))
    refine ⟨2 * μ + (if p 0 then 1 else 0), by rw [Nat.pow_succ]; split <;> omega, fun i hi => ?_⟩
    cases i with
    | zero =>
      rw [Nat.testBit_zero]
      cases p 0 <;> simp <;> omega
    | succ i =>
      rw [Nat.testBit_succ, show (2 * μ + (if p 0 then 1 else 0)) / 2 = μ by split <;> omega]
      exact h2 i (by omega)
theorem countP_index (p : List Int → Bool) : ∀ xs : List (List Int), xs.countP p = (List.range xs.length).countP fun i => p (xs.getD i [])
  | [] => rfl
  | x :: xs => by
    rw [List.countP_cons, countP_index p xs, List.length_cons, List.range_succ_eq_map, List.countP_cons, List.countP_map]
    rfl
theorem pcN_low (n μ : Nat) (hn : n ≤ 64) (h : μ < 2 ^ n) : pcN μ = (List.range n).countP fun j => μ.testBit j := by
  unfold pcN
  rw [show 64 = n + (64 - n) by omega, List.range_add, List.countP_append, List.countP_map]
  have : (List.range (64 - n)).countP ((fun j => μ.testBit j) ∘ fun x => n + x) = 0 := by
    rw [List.countP_eq_zero]
    intro j _
    simp only [Function.comp]
    rw [Nat.testBit_lt_two_pow (Nat.lt_of_lt_of_le h (Nat.pow_le_pow_right (by decide) (by omega)))]
    decide
  rw [this, Nat.add_zero]
theorem folds_same (xs : List (List Int)) (f : List Int) (hn : xs.length ≤ 12) (hM : ∃ m, m < 64 ∧ rowVal m f = true) : specFold xs f 64 0 xs.length = implFold xs f (2 ^ xs.length) 0 (-1) := by
  obtain ⟨a1, a2, a3⟩ := specFold_char xs f 64 0 xs.length
  obtain ⟨_, b2, b3⟩ := implFold_char xs f (2 ^ xs.length) 0 (-1) (.inl rfl)
  generalize specFold xs f 64 0 xs.length = r1 at a1 a2 a3
  generalize implFold xs f (2 ^ xs.length) 0 (-1) = r2 at b2 b3
  have hmask : ∀ m, m < 64 → rowVal m f = true → r2 ≠ -1 ∧ r2 ≤ cntF xs m := by
    intro m hm hf
    obtain ⟨μ, hμ, hbit⟩ := exists_mask (fun i => !rowVal m (xs.getD i [])) xs.length
    have hg : goodB xs f μ = true := by
      unfold goodB
      rw [List.any_eq_true]
      refine ⟨m, List.mem_range.2 hm, ?_⟩
      rw [hf, Bool.true_and, List.all_eq_true]
      intro i hi
      rw [hbit i (List.mem_range.1 hi)]
      cases rowVal m (xs.getD i []) <;> rfl
    have hpc : pcN μ = cntF xs m := by
      rw [pcN_low xs.length μ (by omega) hμ]
      unfold cntF
      rw [countP_index]
      refine List.countP_congr fun i hi => ?_
      rw [hbit i (List.mem_range.1 hi)]
    have := b2 μ (Nat.zero_le _) (by omega) hg
    rw [hpc] at this
    exact this
  have hlow : ∀ μ, μ < 2 ^ xs.length → goodB xs f μ = true → ∃ m, m < 64 ∧ rowVal m f = true ∧ cntF xs m ≤ pcN μ := by
    intro μ hμ hg
    unfold goodB at hg
    rw [List.any_eq_true] at hg
    obtain ⟨m, hm, h2⟩ := hg
    rw [Bool.and_eq_true, List.all_eq_true] at h2
    refine ⟨m, List.mem_range.1 hm, h2.1, ?_⟩
    rw [pcN_low xs.length μ (by omega) hμ]
    unfold cntF
    rw [countP_index]
    refine List.countP_mono_left fun i hi h => ?_
    have := h2.2 i hi
    revert this h
    cases rowVal m (xs.getD i []) <;> simp
  obtain ⟨m0, hm0, hf0⟩ := hM
  have c0 := hmask m0 hm0 hf0
  have hcl : cntF xs m0 ≤ xs.length := List.countP_le_length
  have d1 : r2 ≤ r1 := by
    rcases a3 with a3 | ⟨j, _, hj, hf, e⟩
    · omega
    · have := hmask j (by omega) hf
      omega
  have d2 : r1 ≤ r2 := by
    rcases b3 with b3 | ⟨μ, _, hμ, hg, e⟩
    · exact absurd b3 c0.1
    · obtain ⟨m, hm, hf, hle⟩ := hlow μ (by omega) hg
      have := a2 m (Nat.zero_le _) (by omega) hf
      omega
  omega
theorem folds_none (xs : List (List Int)) (f : List Int) (hM : ∀ m, m < 64 → rowVal m f = false) : implFold xs f (2 ^ xs.length) 0 (-1) = -1 := by
  obtain ⟨_, _, b3⟩ := implFold_char xs f (2 ^ xs.length) 0 (-1) (.inl rfl)
  rcases b3 with b3 | ⟨μ, _, _, hg, _⟩
  · exact b3
  · unfold goodB at hg
    rw [List.any_eq_true] at hg
    obtain ⟨m, hm, h2⟩ := hg
    rw [hM m (List.mem_range.1 hm), Bool.false_and] at h2
    exact absurd h2 (by decide)
theorem leastBack_both (xs : List (List Int)) (f : List Int) (hf : f.length ≤ 1048576) (hn : xs.length ≤ 1048576) (hi : ∀ y ∈ xs, y.length ≤ 1048576) : ∃ r, Ev (fun k => spec_LeastBack.f k xs f) r ∧ Ev (fun k => impl_LeastBack.f k xs f) r := by
  obtain ⟨bv, hr, hb⟩ := rowsOf_rows f (by omega)
  have hSt : Ev (fun k => spec_LeastBack.j0 k xs f true) (-1) := Ev.step (fun k => by rw [spec_LeastBack.j0]) (ev_pos rfl (Ev.now _))
  have hIt : Ev (fun k => impl_LeastBack.j0 k xs (bv.toNat : Int) true) (-1) := Ev.step (fun k => by rw [impl_LeastBack.j0]) (ev_pos rfl (Ev.now _))
  unfold spec_LeastBack.f impl_LeastBack.f
  have hc1 : ([f] : List (List Int)).length ≤ 1048576 := by simp
  have hc2 : ∀ y ∈ ([f] : List (List Int)), y.length ≤ 1048576 := by
    intro y hy
    rw [List.mem_singleton] at hy
    rw [hy]; exact hf
  have hCan := canHold_spec [f] hc1 hc2
  cases hs : isStore xs with
  | false =>
    refine ⟨-1, Ev.bind (isStore_spec xs hn hi) (ev_neg (by rw [hs]; decide) hSt), Ev.bind hr (Ev.bind (isStore_impl xs hn hi) (ev_neg (by rw [hs]; decide) ?_))⟩
    exact hIt
  | true =>
    obtain ⟨hlen, hch⟩ := isStore_len hs
    have hok : xs.all isFormula = true := by
      unfold canHoldB at hch
      exact (Bool.and_eq_true_iff.1 hch).1
    cases hff : isFormula f with
    | false =>
      refine ⟨-1, Ev.bind (isStore_spec xs hn hi) (ev_pos hs (Ev.bind hCan ?_)), Ev.bind hr (Ev.bind (isStore_impl xs hn hi) (ev_pos hs ?_))⟩
      · rw [show ([f] : List (List Int)).all isFormula = false by simp [hff], Bool.false_and]
        exact hSt
      · dsimp only
        rw [hff]
        exact hIt
    | true =>
      have hI : Ev (fun k => impl_LeastBack.j0 k xs (bv.toNat : Int) (!isFormula f)) (implFold xs f (2 ^ xs.length) 0 (-1)) := by
        rw [hff]
        refine Ev.step (fun k => by rw [impl_LeastBack.j0]) ?_
        refine ev_neg (by decide) ?_
        rw [shl_len ⟨xs.length, by omega⟩]
        exact lbI_l0 xs f bv (hb hff) (2 ^ xs.length) (by calc 2 ^ xs.length ≤ 2 ^ 12 := Nat.pow_le_pow_right (by decide) hlen
                                                              _ = 4096 := by decide) hlen hi hok (2 ^ xs.length) 0 (-1) (by omega)
      by_cases hM : ∃ m, m < 64 ∧ rowVal m f = true
      · refine ⟨implFold xs f (2 ^ xs.length) 0 (-1), Ev.bind (isStore_spec xs hn hi) (ev_pos hs (Ev.bind hCan ?_)), Ev.bind hr (Ev.bind (isStore_impl xs hn hi) (ev_pos hs hI))⟩
        have hany : ((List.range 64).any fun j => ([f] : List (List Int)).all (rowVal j)) = true := by
          obtain ⟨m, hm, h2⟩ := hM
          rw [List.any_eq_true]
          exact ⟨m, List.mem_range.2 hm, by simp [h2]⟩
        rw [show ([f] : List (List Int)).all isFormula = true by simp [hff], Bool.true_and, hany]
        refine Ev.step (fun k => by rw [spec_LeastBack.j0]) ?_
        refine ev_neg (by decide) ?_
        rw [← folds_same xs f hlen hM]
        exact lbS_l0 xs f hf hn hi 64 0 xs.length rfl
      · have hM2 : ∀ m, m < 64 → rowVal m f = false := by
          intro m hm
          cases h : rowVal m f with
          | false => rfl
          | true => exact absurd ⟨m, hm, h⟩ hM
        rw [folds_none xs f hM2] at hI
        refine ⟨-1, Ev.bind (isStore_spec xs hn hi) (ev_pos hs (Ev.bind hCan ?_)), Ev.bind hr (Ev.bind (isStore_impl xs hn hi) (ev_pos hs hI))⟩
        have hany : ((List.range 64).any fun j => ([f] : List (List Int)).all (rowVal j)) = false := by
          rw [List.any_eq_false]
          intro m hm
          simp [hM2 m (List.mem_range.1 hm)]
        rw [hany, Bool.and_false]
        exact hSt

theorem FnExactLeastBack (l0 : List (List Int)) (g0 : l0.length ≤ 9223372036854775807 ∧ ∀ y ∈ l0, y.length ≤ 9223372036854775807 ∧ ∀ z ∈ y, (Lit.int .i64 z).wf = true) (l1 : List Int) (g1 : l1.length ≤ 9223372036854775807 ∧ ∀ y ∈ l1, (Lit.int .i64 y).wf = true) : ∃ k, laws_FnExactLeastBack.f k l0 l1 = some true := by
  refine Ev.rounds (g := fun k => laws_FnExactLeastBack.f k l0 l1) ?_
  unfold laws_FnExactLeastBack.f
  refine ev_ite (fun _ => Ev.now _) (fun hm => ?_)
  obtain ⟨r, hr, hok⟩ := szIntSS_ev l0 g0.1 (fun y hy => (g0.2 y hy).1)
  refine Ev.bind hr (ev_ite (fun _ => Ev.now _) (fun h0 => ?_))
  obtain ⟨hn, hi⟩ := hok h0
  have hi2 : ∀ y ∈ l0, y.length ≤ 35184372088832 := fun y hy => Nat.le_trans (hi y hy) (by decide)
  obtain ⟨v, hs, hp⟩ := leastBack_both l0 l1 (by omega) hn hi
  refine Ev.bind (toIntSS_ev l0 (by omega) hi2) (Ev.bind (toIntS_ev l1 (by omega)) (Ev.bind hs (Ev.bind (toIntSS_ev l0 (by omega) hi2) (Ev.bind (toIntS_ev l1 (by omega)) (Ev.bind hp (ev_pos rfl ?_))))))
  exact Ev.bind (toIntSS_ev l0 (by omega) hi2) (Ev.bind (eqIntSS_same _ g0.1 (fun y hy => (g0.2 y hy).1)) (ev_pos rfl (Ev.bind (toIntS_ev l1 (by omega)) (Ev.bind (eqIntS_same _ (by omega)) (ev_pos rfl (Ev.now _))))))

end Go.Proofs.Ytlbecibchkamjaa.Pure
