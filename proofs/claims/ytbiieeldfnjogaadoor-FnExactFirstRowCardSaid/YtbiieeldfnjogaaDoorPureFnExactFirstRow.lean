/- The plain statement of the law FnExactFirstRow, for all numbers and lists. -/
import Derived.Test.YtbiieeldfnjogaaDoorPFnExactFirstRowx0
import Derived.Test.YtbiieeldfnjogaaDoorPFnExactFirstRowx1
import Derived.Test.YtbiieeldfnjogaaDoorPFnExactFirstRowx2
import Derived.Test.YtbiieeldfnjogaaDoorPFnExactFirstRowx3
import Derived.Test.YtbiieeldfnjogaaDoorPFnExactFirstRowx4
import Derived.Test.YtbiieeldfnjogaaDoorPFnExactFirstRowx5
import Derived.Test.YtbiieeldfnjogaaDoorBase
set_option linter.unusedVariables false
set_option linter.unusedSimpArgs false
namespace Go.Proofs.YtbiieeldfnjogaaDoor.Pure
open Go.RowKit Go.Proofs.YtbiieeldfnjogaaDoor.PFnExactFirstRow Go.Proofs.YtbiieeldfnjogaaDoorW.PrintWords Go.Proofs.YtbiieeldfnjogaaDoorW.PrintLast Go.Proofs.YtbiieeldfnjogaaDoorW.PrintMore Go.Proofs.YtbiieeldfnjogaaDoor.Base
theorem toIntS_l0 (xs : List Int) (hn : xs.length ≤ 35184372088832) : ∀ (zs : List Int) (i : Nat) (ys : List Int), xs.drop i = zs → ys.length = xs.length → ys.take i = xs.take i → Ev (fun k => laws_toIntS.l0 k xs ys (i : Int)) xs := by
  intro zs
  induction zs with
  | nil =>
    intro i ys h hl ht
    have := at_end h
    refine Ev.step (fun k => by rw [laws_toIntS.l0]) (ev_neg (by omega) ?_)
    rw [List.take_of_length_le (by omega), List.take_of_length_le (by omega)] at ht
    rw [ht]
    exact Ev.now _
  | cons z zs ih =>
    intro i ys h hl ht
    obtain ⟨hi, hz, h', _⟩ := at_drop h
    refine Ev.step (fun k => by rw [laws_toIntS.l0]) (ev_pos (by omega) (ev_pos (by omega) (ev_pos (by omega) ?_)))
    rw [wrap_id (by omega) (by omega), Int.toNat_natCast, rd_get hz]
    exact ih (i + 1) _ h' (by simp [hl]) (by rw [take_set_at (by omega), take_at hz, ht])
theorem toIntS_ev (xs : List Int) (hn : xs.length ≤ 35184372088832) : Ev (fun k => laws_toIntS.f k xs) xs := by
  unfold laws_toIntS.f
  exact ev_pos (by omega) (ev_pos (by omega) (toIntS_l0 xs hn xs 0 _ rfl (by simp) (by simp)))
theorem eqIntS_l0 (xs ys : List Int) (hl : xs.length = ys.length) (hn : xs.length ≤ 9223372036854775807) : ∀ (zs us : List Int) (i : Nat), xs.drop i = zs → ys.drop i = us → Ev (fun k => laws_eqIntS.l0 k xs ys (i : Int)) (decide (zs = us)) := by
  intro zs
  induction zs with
  | nil =>
    intro us i h hu
    have := at_end h
    refine Ev.step (fun k => by rw [laws_eqIntS.l0]) (ev_neg (by omega) ?_)
    rw [List.drop_of_length_le (by omega)] at hu
    subst hu
    exact ev_eq (Ev.now _) (by simp)
  | cons z zs ih =>
    intro us i h hu
    obtain ⟨hi, hz, h', _⟩ := at_drop h
    cases us with
    | nil => have := at_end hu; omega
    | cons u us =>
      obtain ⟨_, hzu, hu', _⟩ := at_drop hu
      refine Ev.step (fun k => by rw [laws_eqIntS.l0]) (ev_pos (by omega) (ev_pos (by omega) (ev_pos (by omega) ?_)))
      rw [wrap_id (by omega) (by omega), rd_get hz, rd_get hzu]
      refine ev_ite (fun e => ev_eq (ih us (i + 1) h' hu') (by simp [e])) (fun e => ev_eq (Ev.now _) (by simp [e]))
theorem eqIntS_ev (xs ys : List Int) (hn : xs.length ≤ 9223372036854775807) : Ev (fun k => laws_eqIntS.f k xs ys) (decide (xs = ys)) := by
  unfold laws_eqIntS.f
  refine ev_ite (fun e => eqIntS_l0 xs ys (by omega) hn xs ys 0 rfl rfl) (fun e => ev_eq (Ev.now _) ?_)
  have : xs ≠ ys := by rintro rfl; exact e rfl
  simp [this]
theorem eqIntS_same (xs : List Int) (hn : xs.length ≤ 9223372036854775807) : Ev (fun k => laws_eqIntS.f k xs xs) true := ev_eq (eqIntS_ev xs xs hn) (by simp)
theorem l1In_eq (x a b : Int) : spec_l1In.f x a b = some (decide (a ≤ x ∧ x ≤ b)) := by
  unfold spec_l1In.f
  by_cases h : a ≤ x <;> simp [h]
theorem inRange_eq (x a b : Int) : impl_InRange.f x a b = some (decide (a ≤ x ∧ x ≤ b)) := by
  unfold impl_InRange.f
  by_cases h : a ≤ x <;> simp [h]

/-- How many values are on the pile behind a formula's signs, from n on. -/
def shape : List Int → Nat → Option Nat
  | [], n => some n
  | s :: r, n => if 0 ≤ s ∧ s ≤ 5 then shape r (n + 1) else if s = -1 then (if 1 ≤ n then shape r n else none) else if -4 ≤ s ∧ s ≤ -2 then (if 2 ≤ n then shape r (n - 1) else none) else none
def isFormula (f : List Int) : Bool := decide (shape f 0 = some 1) && decide (f.length ≤ 24)
/-- The pile (its top first) behind a formula's signs. -/
def evalS {β : Type} (lit : Int → β) (no : β → β) (op : Int → β → β → β) : List Int → List β → Option (List β)
  | [], st => some st
  | s :: r, st => if 0 ≤ s ∧ s ≤ 5 then evalS lit no op r (lit s :: st) else if s = -1 then (match st with | x :: st2 => evalS lit no op r (no x :: st2) | [] => none) else if -4 ≤ s ∧ s ≤ -2 then (match st with | b :: a :: st2 => evalS lit no op r (op s a b :: st2) | _ => none) else none
theorem evalS_shape {β : Type} (lit : Int → β) (no : β → β) (op : Int → β → β → β) : ∀ (f : List Int) (st : List β), (evalS lit no op f st).map List.length = shape f st.length := by
  intro f
  induction f with
  | nil => intro st; rfl
  | cons s r ih =>
    intro st
    unfold evalS shape
    by_cases h0 : 0 ≤ s ∧ s ≤ 5
    · rw [if_pos h0, if_pos h0, ih]; rfl
    · rw [if_neg h0, if_neg h0]
      by_cases h1 : s = -1
      · rw [if_pos h1, if_pos h1]
        cases st with
        | nil => rfl
        | cons x st2 => rw [if_pos (by simp)]; dsimp only; rw [ih]; rfl
      · rw [if_neg h1, if_neg h1]
        by_cases h2 : -4 ≤ s ∧ s ≤ -2
        · rw [if_pos h2, if_pos h2]
          match st with
          | [] => rfl
          | [x] => rfl
          | b :: a :: st2 => rw [if_pos (by simp)]; dsimp only; rw [ih]; rfl
        · rw [if_neg h2, if_neg h2]; rfl
/-- One homomorphism's image of the other's pile. -/
theorem evalS_map {β γ : Type} {lit : Int → β} {no : β → β} {op : Int → β → β → β} {lit2 : Int → γ} {no2 : γ → γ} {op2 : Int → γ → γ → γ} (h : β → γ)
    (h0 : ∀ s, 0 ≤ s → s ≤ 5 → h (lit s) = lit2 s) (h1 : ∀ x, h (no x) = no2 (h x)) (h2 : ∀ s a b, -4 ≤ s → s ≤ -2 → h (op s a b) = op2 s (h a) (h b)) :
    ∀ (f : List Int) (st : List β), evalS lit2 no2 op2 f (st.map h) = (evalS lit no op f st).map (List.map h) := by
  intro f
  induction f with
  | nil => intro st; rfl
  | cons s r ih =>
    intro st
    unfold evalS
    by_cases k0 : 0 ≤ s ∧ s ≤ 5
    · rw [if_pos k0, if_pos k0, ← ih, List.map_cons, h0 s k0.1 k0.2]
    · rw [if_neg k0, if_neg k0]
      by_cases k1 : s = -1
      · rw [if_pos k1, if_pos k1]
        cases st with
        | nil => rfl
        | cons x st2 => simp only [List.map_cons]; rw [← ih, List.map_cons, h1]
      · rw [if_neg k1, if_neg k1]
        by_cases k2 : -4 ≤ s ∧ s ≤ -2
        · rw [if_pos k2, if_pos k2]
          match st with
          | [] => rfl
          | [x] => rfl
          | b :: a :: st2 => simp only [List.map_cons]; rw [← ih, List.map_cons, h2 s a b k2.1 k2.2]
        · rw [if_neg k2, if_neg k2]; rfl
def opB (s : Int) (a b : Bool) : Bool := if s = -2 then a && b else if s = -3 then a || b else !a || b
/-- A formula's value where v has the letters' values; false where it is no formula. -/
def valB (v : Nat → Bool) (f : List Int) : Bool := match evalS (fun s => v s.toNat) (fun x => !x) opB f [] with | some [x] => x | _ => false
def value (v : Nat → Bool) (f : List Int) : Bool := isFormula f && valB v f
theorem isFormula_spec_l0 (xs : List Int) (hn : xs.length ≤ 9223372036854775800) : ∀ (zs : List Int) (i n : Nat), xs.drop i = zs → n ≤ i → Ev (fun k => spec_IsFormula.l0 k xs (n : Int) (i : Int)) (decide (shape zs n = some 1) && decide (xs.length ≤ 24)) := by
  intro zs
  induction zs with
  | nil =>
    intro i n h _
    have := at_end h
    refine Ev.step (fun k => by rw [spec_IsFormula.l0]) ?_
    refine ev_neg (by omega) (ev_ite (fun e => ev_eq (Ev.now _) ?_) (fun e => ev_eq (Ev.now _) ?_))
    · have : n = 1 := by omega
      subst this
      simp [shape]
      omega
    · have : n ≠ 1 := by omega
      simp [shape, this]
  | cons z zs ih =>
    intro i n h hni
    obtain ⟨hi, hz, h2, _⟩ := at_drop h
    refine Ev.step (fun k => by rw [spec_IsFormula.l0]) ?_
    refine ev_pos (by omega) (ev_pos (by omega) ?_)
    rw [rd_get hz, wrap_id (x := (i : Int) + 1) (by omega) (by omega)]
    have hsh : shape (z :: zs) n = if 0 ≤ z ∧ z ≤ 5 then shape zs (n + 1) else if z = -1 then (if 1 ≤ n then shape zs n else none) else if -4 ≤ z ∧ z ≤ -2 then (if 2 ≤ n then shape zs (n - 1) else none) else none := rfl
    rw [hsh]
    refine ev_bind0 (l1In_eq _ _ _) (ev_ite (fun e0 => ?_) (fun e0 => ?_))
    · simp only [decide_eq_true_eq] at e0
      rw [if_pos e0, wrap_id (by omega) (by omega)]
      exact ih (i + 1) (n + 1) h2 (by omega)
    · simp only [decide_eq_true_eq] at e0
      rw [if_neg e0]
      have tail : z ≠ -1 ∨ ¬ 1 ≤ n → Ev (fun k => spec_IsFormula.j1 k xs (n : Int) (i : Int) false) (decide ((if z = -1 then (if 1 ≤ n then shape zs n else none) else if -4 ≤ z ∧ z ≤ -2 then (if 2 ≤ n then shape zs (n - 1) else none) else none) = some 1) && decide (xs.length ≤ 24)) := by
        intro hz1
        refine Ev.step (fun k => by rw [spec_IsFormula.j1]) ?_
        refine ev_neg (by decide) (ev_pos (by omega) (ev_pos (by omega) ?_))
        rw [rd_get hz, wrap_id (x := (i : Int) + 1) (by omega) (by omega)]
        refine ev_bind0 (l1In_eq _ _ _) (ev_ite (fun e2 => ?_) (fun e2 => ev_eq (Ev.now _) ?_))
        · simp only [decide_eq_true_eq] at e2
          rw [if_neg (show ¬ z = -1 by omega), if_pos e2]
          refine ev_ite (fun e3 => ?_) (fun e3 => ev_eq (Ev.now _) ?_)
          · rw [if_pos (by omega), wrap_id (by omega) (by omega), show (n : Int) - 1 = ((n - 1 : Nat) : Int) by omega]
            exact ih (i + 1) (n - 1) h2 (by omega)
          · rw [if_neg (by omega)]
            simp
        · simp only [decide_eq_true_eq] at e2
          rw [if_neg e2]
          rcases hz1 with hz1 | hz1
          · rw [if_neg hz1]; simp
          · rw [if_neg hz1]; simp
      refine ev_ite (fun e1 => ?_) (fun e1 => tail (.inl e1))
      by_cases hn1 : 1 ≤ n
      · rw [if_pos e1, if_pos hn1, show decide ((n : Int) ≥ 1) = true by simp; omega]
        refine Ev.step (fun k => by rw [spec_IsFormula.j1]) (ev_pos rfl ?_)
        rw [wrap_id (x := (i : Int) + 1) (by omega) (by omega)]
        exact ih (i + 1) n h2 (by omega)
      · rw [show decide ((n : Int) ≥ 1) = false by simp; omega]
        exact tail (.inr hn1)
theorem isFormula_spec (f : List Int) (hn : f.length ≤ 9223372036854775800) : Ev (fun k => spec_IsFormula.f k f) (isFormula f) := by
  unfold spec_IsFormula.f
  exact isFormula_spec_l0 f hn f 0 0 rfl (by omega)
theorem shape_bound : ∀ (f : List Int) (n m : Nat), shape f n = some m → m ≤ n + f.length := by
  intro f
  induction f with
  | nil => intro n m h; simp [shape] at h; omega
  | cons s r ih =>
    intro n m h
    unfold shape at h
    rw [List.length_cons]
    split at h
    · have := ih _ _ h; omega
    · split at h
      · split at h
        · have := ih _ _ h; omega
        · simp at h
      · split at h
        · split at h
          · have := ih _ _ h; omega
          · simp at h
        · simp at h
theorem rdOf_snoc {α : Type} (d x : α) (l : List α) (i : Int) (h : i = l.length) : rdOf d (l ++ [x]) i = x := by
  subst h
  unfold rdOf
  simp
theorem set_snoc {α : Type} (x y : α) (l : List α) (i : Int) (h : i = l.length) : (l ++ [x]).set i.toNat y = l ++ [y] := by
  subst h
  rw [Int.toNat_natCast, List.set_append_right _ _ (Nat.le_refl _)]
  simp
theorem take_snoc {α : Type} (x : α) (l : List α) (i : Int) (h : i = l.length) : (l ++ [x]).take i.toNat = l := by
  subst h
  simp
theorem opB_eq (s : Int) (a b : Bool) : spec_l10Op.f s a b = some (opB s a b) := by
  unfold spec_l10Op.f opB
  by_cases h2 : s = -2
  · cases a <;> simp [h2]
  · by_cases h3 : s = -3
    · cases a <;> simp [h3]
    · cases a <;> simp [h2, h3]
theorem value_spec_l0 (xs : List Int) (ls : List Bool) (v : Nat → Bool) (hv : ∀ k : Nat, v k = ls.getD k false) (hn : xs.length ≤ 24) (hl : ls.length ≤ 9223372036854775807) : ∀ (zs : List Int) (i : Nat) (st : List Bool), xs.drop i = zs → st.length ≤ i → shape zs st.length = some 1 →
    Ev (fun k => spec_Value.l0 k xs ls st.reverse (i : Int)) (match evalS (fun s => v s.toNat) (fun x => !x) opB zs st with | some [x] => x | _ => false) := by
  intro zs
  induction zs with
  | nil =>
    intro i st h hst hsh
    have := at_end h
    have hl1 : st.length = 1 := by simpa [shape] using hsh
    match st, hl1 with
    | [x], _ =>
      refine Ev.step (fun k => by rw [spec_Value.l0]) ?_
      exact ev_neg (by omega) (ev_pos (by simp) (ev_eq (Ev.now _) rfl))
  | cons z zs ih =>
    intro i st h hst hsh
    obtain ⟨hi, hz, h2, _⟩ := at_drop h
    have hrl : st.reverse.length = st.length := List.length_reverse
    refine Ev.step (fun k => by rw [spec_Value.l0]) ?_
    refine ev_pos (by omega) (ev_pos (by omega) ?_)
    rw [rd_get hz, wrap_id (x := (i : Int) + 1) (by omega) (by omega)]
    unfold shape at hsh
    unfold evalS
    by_cases e0 : 0 ≤ z ∧ z ≤ 5
    · rw [if_pos e0] at hsh
      rw [if_pos e0]
      have ih2 := ih (i + 1) (v z.toNat :: st) h2 (by first | (simp; done) | (simp; omega)) hsh
      rw [List.reverse_cons] at ih2
      refine ev_pos (by omega) ?_
      by_cases hlt : z < (ls.length : Int)
      · refine ev_pos hlt (ev_pos e0.1 (ev_pos (by omega) ?_))
        rw [show rdOf false ls z = v z.toNat from (hv z.toNat).symm]
        exact ih2
      · refine ev_neg hlt (ev_pos (by omega) ?_)
        have : v z.toNat = false := by
          rw [hv, List.getD_eq_getElem?_getD, List.getElem?_eq_none (by omega)]
          rfl
        rw [this] at ih2 ⊢
        exact ih2
    · rw [if_neg e0] at hsh
      rw [if_neg e0]
      by_cases e1 : z = -1
      · rw [if_pos e1] at hsh
        rw [if_pos e1]
        refine ev_neg (by omega) (ev_pos e1 ?_)
        cases st with
        | nil => simp at hsh
        | cons x st2 =>
          rw [if_pos (by simp)] at hsh
          have ih2 := ih (i + 1) ((!x) :: st2) h2 (by simp only [List.length_cons] at hst ⊢; omega) (by simpa using hsh)
          rw [List.reverse_cons] at ih2 ⊢
          simp only [List.length_cons] at hst
          rw [wrap_id (x := ((st2.reverse ++ [x]).length : Int) - 1) (by first | (simp; done) | (simp; omega)) (by first | (simp; done) | (simp; omega))]
          refine ev_pos (by first | (simp; done) | (simp; omega)) (ev_pos (by first | (simp; done) | (simp; omega)) ?_)
          rw [rdOf_snoc false x st2.reverse _ (by first | (simp; done) | (simp; omega)), set_snoc x (!x) st2.reverse _ (by first | (simp; done) | (simp; omega))]
          exact ih2
      · rw [if_neg e1] at hsh
        rw [if_neg e1]
        by_cases e2 : -4 ≤ z ∧ z ≤ -2
        · rw [if_pos e2] at hsh
          rw [if_pos e2]
          refine ev_neg (by omega) (ev_neg e1 ?_)
          match st with
          | [] => simp at hsh
          | [x] => simp at hsh
          | b :: a :: st2 =>
            rw [if_pos (by simp)] at hsh
            simp only [List.length_cons] at hst
            have ih2 := ih (i + 1) (opB z a b :: st2) h2 (by first | (simp; done) | (simp; omega)) (by simpa using hsh)
            rw [List.reverse_cons] at ih2
            dsimp only
            rw [List.reverse_cons, List.reverse_cons]
            have hlen : ((st2.reverse ++ [a] ++ [b]).length : Int) = st2.length + 2 := (by first | (simp; done) | (simp; omega))
            rw [hlen, wrap_id (x := (st2.length : Int) + 2 - 2) (by omega) (by omega), wrap_id (x := (st2.length : Int) + 2 - 1) (by omega) (by omega)]
            refine ev_pos (by omega) (ev_pos (by omega) (ev_pos (by omega) (ev_pos (by omega) ?_)))
            rw [rdOf_snoc false b (st2.reverse ++ [a]) ((st2.length : Int) + 2 - 1) (by first | (simp; done) | (simp; omega))]
            have ha : rdOf false (st2.reverse ++ [a] ++ [b]) ((st2.length : Int) + 2 - 2) = a := by
              rw [show (st2.length : Int) + 2 - 2 = ((st2.length : Nat) : Int) by omega]
              unfold rdOf
              simp
            have ht : (st2.reverse ++ [a] ++ [b]).take ((st2.length : Int) + 2 - 2).toNat = st2.reverse := by
              rw [show (st2.length : Int) + 2 - 2 = ((st2.length : Nat) : Int) by omega, Int.toNat_natCast, List.append_assoc, List.take_append_of_le_length (by simp), List.take_of_length_le (by simp)]
            rw [ha, ht]
            refine ev_bind0 (opB_eq _ _ _) (ev_pos (by omega) (ev_bind0 rfl (ev_pos (by first | (simp; done) | (simp; omega)) ?_)))
            exact ih2
        · rw [if_neg e2] at hsh
          simp at hsh
theorem value_spec (f : List Int) (ls : List Bool) (hn : f.length ≤ 9223372036854775800) (hl : ls.length ≤ 9223372036854775807) : Ev (fun k => spec_Value.f k f ls) (value (fun k => ls.getD k false) f) := by
  unfold spec_Value.f value
  refine Ev.bind (isFormula_spec f hn) (ev_ite (fun e => ?_) (fun e => ev_eq (Ev.now _) ?_))
  · rw [e, Bool.true_and]
    have e2 := e
    simp only [isFormula, Bool.and_eq_true, decide_eq_true_eq] at e2
    exact value_spec_l0 f ls _ (fun _ => rfl) e2.2 hl f 0 [] rfl (by simp) e2.1
  · simp [e]
/-- A formula's value in row m. -/
def rowVal (m : Nat) (f : List Int) : Bool := value (fun k => m.testBit k) f
theorem l11Row_all : ∀ m : Fin 64, spec_l11Row.f 7 ((m.val : Nat) : Int) = some ((List.range 6).map fun k => m.val.testBit k) := by decide +kernel
theorem l11Row_ev (m : Nat) (hm : m < 64) : Ev (fun k => spec_l11Row.f k (m : Int)) ((List.range 6).map fun k => m.testBit k) :=
  Ev.of (spec_l11Row.mono (m : Int)) (k := 7) (l11Row_all ⟨m, hm⟩)
theorem testBit_high (m k : Nat) (hm : m < 64) (hk : 6 ≤ k) : m.testBit k = false := by
  apply Nat.testBit_lt_two_pow
  calc m < 2 ^ 6 := hm
    _ ≤ 2 ^ k := Nat.pow_le_pow_right (by decide) hk
theorem row_getD (m : Nat) (hm : m < 64) (k : Nat) : ((List.range 6).map fun k => m.testBit k).getD k false = m.testBit k := by
  rw [List.getD_eq_getElem?_getD, List.getElem?_map]
  by_cases h : k < 6
  · rw [List.getElem?_range h]; rfl
  · rw [List.getElem?_eq_none (by first | (simp; done) | (simp; omega)), testBit_high m k hm (by omega)]; rfl
theorem value_row (f : List Int) (m : Nat) (hm : m < 64) (hn : f.length ≤ 9223372036854775800) : Ev (fun k => spec_Value.f k f ((List.range 6).map fun k => m.testBit k)) (rowVal m f) := by
  refine ev_eq (value_spec f _ hn (by simp)) ?_
  unfold rowVal
  congr 1
  funext k
  exact row_getD m hm k
theorem wrap_u64_ (n : Int) : IntKind.u64.wrap n = n % 18446744073709551616 := by simp [IntKind.wrap, IntKind.bits, IntKind.signed]
theorem bits_and_bv (a b : BitVec 64) : Go.bits .and .u64 (a.toNat : Int) (b.toNat : Int) = ((a &&& b).toNat : Int) := by
  show IntKind.u64.wrap ((BitVec.ofInt 64 (a.toNat : Int) &&& BitVec.ofInt 64 (b.toNat : Int)).toNat : Int) = _
  rw [BitVec.ofInt_natCast, BitVec.ofInt_natCast, BitVec.ofNat_toNat, BitVec.ofNat_toNat, BitVec.setWidth_eq, BitVec.setWidth_eq]
  have := (a &&& b).isLt
  rw [wrap_u64_]
  omega
theorem bits_or_bv (a b : BitVec 64) : Go.bits .or .u64 (a.toNat : Int) (b.toNat : Int) = ((a ||| b).toNat : Int) := by
  show IntKind.u64.wrap ((BitVec.ofInt 64 (a.toNat : Int) ||| BitVec.ofInt 64 (b.toNat : Int)).toNat : Int) = _
  rw [BitVec.ofInt_natCast, BitVec.ofInt_natCast, BitVec.ofNat_toNat, BitVec.ofNat_toNat, BitVec.setWidth_eq, BitVec.setWidth_eq]
  have := (a ||| b).isLt
  rw [wrap_u64_]
  omega
theorem bits_not_bv (a : BitVec 64) : Go.bits .xor .u64 18446744073709551615 (a.toNat : Int) = ((~~~a).toNat : Int) := by
  show IntKind.u64.wrap ((BitVec.ofInt 64 18446744073709551615 ^^^ BitVec.ofInt 64 (a.toNat : Int)).toNat : Int) = _
  have h1 : BitVec.ofInt 64 18446744073709551615 = BitVec.allOnes 64 := by decide
  rw [h1, BitVec.ofInt_natCast, BitVec.ofNat_toNat, BitVec.setWidth_eq, BitVec.allOnes_xor]
  have := (~~~a).isLt
  rw [wrap_u64_]
  omega
def letterBV (s : Int) : BitVec 64 := if s = 0 then 12297829382473034410#64 else if s = 1 then 14757395258967641292#64 else if s = 2 then 17361641481138401520#64 else if s = 3 then 18374966859414961920#64 else if s = 4 then 18446462603027742720#64 else 18446744069414584320#64
theorem letterRows_all : ∀ s : Fin 6, impl_letterRows.f 65 ((s.val : Nat) : Int) = some ((letterBV ((s.val : Nat) : Int)).toNat : Int) := by decide +kernel
theorem letterRows_ev (s : Int) (h0 : 0 ≤ s) (h5 : s ≤ 5) : Ev (fun k => impl_letterRows.f k s) ((letterBV s).toNat : Int) := by
  have := letterRows_all ⟨s.toNat, by omega⟩
  rw [show ((s.toNat : Nat) : Int) = s by omega] at this
  exact Ev.of (impl_letterRows.mono s) (k := 65) this
theorem letterBV_bit : ∀ (s : Fin 6) (m : Fin 64), (letterBV ((s.val : Nat) : Int)).getLsbD m.val = m.val.testBit s.val := by decide +kernel
def opV (s : Int) (a b : BitVec 64) : BitVec 64 := if s = -2 then a &&& b else if s = -3 then a ||| b else ~~~a ||| b
def rowsE (f : List Int) : Option (List (BitVec 64)) := evalS letterBV (fun x => ~~~x) opV f []
/-- The rows that rowsOf answers with. -/
def rowsBV (f : List Int) : BitVec 64 := match rowsE f with | some st => st.getLastD 0#64 | none => 0#64
theorem rd_snoc (x : Int) (l : List Int) (i : Int) (h : i = l.length) : rd (l ++ [x]) i = x := by
  subst h
  unfold rd
  simp
theorem iset_snoc (x y : Int) (l : List Int) (i : Int) (h : i = l.length) : (l ++ [x]).set i.toNat y = l ++ [y] := by
  subst h
  rw [Int.toNat_natCast, List.set_append_right _ _ (Nat.le_refl _)]
  simp
theorem itake_snoc (x : Int) (l : List Int) (i : Int) (h : i = l.length) : (l ++ [x]).take i.toNat = l := by
  subst h
  simp
/-- The pile as the program has it: numbers, the top last. -/
def pileV (st : List (BitVec 64)) : List Int := (st.map fun x => (x.toNat : Int)).reverse
theorem pileV_cons (x : BitVec 64) (st : List (BitVec 64)) : pileV (x :: st) = pileV st ++ [(x.toNat : Int)] := by simp [pileV]
theorem pileV_length (st : List (BitVec 64)) : (pileV st).length = st.length := by simp [pileV]
theorem pileV_first (st : List (BitVec 64)) (h : st ≠ []) : rd (pileV st) 0 = ((st.getLastD 0#64).toNat : Int) := by
  unfold rd pileV
  cases st with
  | nil => exact absurd rfl h
  | cons a st =>
    rw [Int.toNat_zero, List.getD_eq_getElem?_getD, ← List.head?_eq_getElem?, List.head?_reverse, List.getLast?_map, List.getLast?_eq_some_getLast h]
    simp [List.getLastD]
def rowsAns (o : Option (List (BitVec 64))) : Int × Bool := match o with | some st => (((st.getLastD 0#64).toNat : Int), decide (st.length = 1)) | none => (0, false)
theorem rowsOf_l0 (xs : List Int) (hn : xs.length ≤ 24) : ∀ (zs : List Int) (i : Nat) (st : List (BitVec 64)), xs.drop i = zs → st.length ≤ i → (zs = [] → st ≠ []) → (st = [] → i = 0) →
    Ev (fun k => impl_rowsOf.l0 k (pileV st) xs xs.length (i : Int)) (rowsAns (evalS letterBV (fun x => ~~~x) opV zs st)) := by
  intro zs
  induction zs with
  | nil =>
    intro i st h hst hne _
    have := at_end h
    have hp := pileV_length st
    have : 0 < st.length := List.length_pos_iff.2 (hne rfl)
    refine Ev.step (fun k => by rw [impl_rowsOf.l0]) ?_
    refine ev_neg (by omega) (ev_pos (by omega) (ev_eq (Ev.now _) ?_))
    rw [pileV_first st (hne rfl), hp]
    simp only [evalS, rowsAns]
    refine Prod.ext rfl ?_
    rw [Bool.eq_iff_iff]
    simp
    omega
  | cons z zs ih =>
    intro i st h hst hne hi0
    obtain ⟨hi, hz, h2, _⟩ := at_drop h
    have hp := pileV_length st
    refine Ev.step (fun k => by rw [impl_rowsOf.l0]) ?_
    refine ev_pos (by omega) (ev_pos (by omega) (ev_pos (by omega) ?_))
    rw [rd_get hz, wrap_id (x := (i : Int) + 1) (by omega) (by omega)]
    unfold evalS
    refine ev_bind0 (inRange_eq _ _ _) (ev_ite (fun e0 => ?_) (fun e0 => ?_))
    · simp only [decide_eq_true_eq] at e0
      rw [if_pos e0]
      refine Ev.bind (letterRows_ev z e0.1 e0.2) (ev_pos (by omega) ?_)
      have ih2 := ih (i + 1) (letterBV z :: st) h2 (by first | (simp; done) | (simp; omega)) (by simp) (by simp)
      rw [pileV_cons] at ih2
      exact ih2
    · simp only [decide_eq_true_eq] at e0
      rw [if_neg e0]
      have no2 : ¬ (-4 ≤ z ∧ z ≤ -2) ∨ ¬ 2 ≤ st.length → Ev (fun k => impl_rowsOf.j2 k (pileV st) z ((pileV st).length : Int) xs xs.length (i : Int) false) ((0, false) : Int × Bool) := by
        intro _
        refine Ev.step (fun k => by rw [impl_rowsOf.j2]) ?_
        exact ev_neg (by decide) (Ev.now _)
      by_cases e1 : z = -1
      · rw [if_pos e1]
        refine ev_pos e1 ?_
        cases st with
        | nil =>
          rw [show decide (((pileV []).length : Int) ≥ 1) = false by rfl]
          refine Ev.step (fun k => by rw [impl_rowsOf.j1]) ?_
          refine ev_neg (by decide) (ev_bind0 (inRange_eq _ _ _) (ev_neg (by first | (simp; done) | (simp; omega)) (no2 (.inr (by simp)))))
        | cons x st2 =>
          rw [show decide (((pileV (x :: st2)).length : Int) ≥ 1) = true by rw [pileV_length]; simp; omega]
          refine Ev.step (fun k => by rw [impl_rowsOf.j1]) ?_
          refine ev_pos rfl ?_
          have ih2 := ih (i + 1) ((~~~x) :: st2) h2 (by simp only [List.length_cons] at hst ⊢; omega) (by simp) (by simp)
          simp only [List.length_cons] at hst hp
          rw [pileV_cons] at ih2
          rw [hp, wrap_id (x := ((st2.length + 1 : Nat) : Int) - 1) (by omega) (by omega), wrap_id (x := (i : Int) + 1) (by omega) (by omega)]
          refine ev_pos (by omega) (ev_pos (by omega) ?_)
          rw [pileV_cons, rd_snoc _ _ _ (by rw [pileV_length]; omega), bits_not_bv, iset_snoc _ _ _ _ (by rw [pileV_length]; omega)]
          exact ih2
      · rw [if_neg e1]
        refine ev_neg e1 (Ev.step (fun k => by rw [impl_rowsOf.j1]) ?_)
        refine ev_neg (by decide) (ev_bind0 (inRange_eq _ _ _) (ev_ite (fun e2 => ?_) (fun e2 => ?_)))
        · simp only [decide_eq_true_eq] at e2
          rw [if_pos e2]
          match st with
          | [] => exact no2 (.inr (by simp))
          | [x] => exact no2 (.inr (by simp))
          | b :: a :: st2 =>
            simp only [List.length_cons] at hst hp
            dsimp only
            rw [hp, show decide (((st2.length + 1 + 1 : Nat) : Int) ≥ 2) = true by simp; omega]
            refine Ev.step (fun k => by rw [impl_rowsOf.j2]) ?_
            refine ev_pos rfl ?_
            have ih2 := ih (i + 1) (opV z a b :: st2) h2 (by first | (simp; done) | (simp; omega)) (by simp) (by simp)
            rw [pileV_cons] at ih2
            rw [hp, wrap_id (x := ((st2.length + 1 + 1 : Nat) : Int) - 2) (by omega) (by omega), wrap_id (x := ((st2.length + 1 + 1 : Nat) : Int) - 1) (by omega) (by omega), wrap_id (x := (i : Int) + 1) (by omega) (by omega)]
            refine ev_pos (by omega) (ev_pos (by omega) (ev_pos (by omega) (ev_pos (by omega) (ev_pos (by omega) ?_))))
            have hb : rd (pileV (b :: a :: st2)) (((st2.length + 1 + 1 : Nat) : Int) - 1) = (b.toNat : Int) := by
              rw [pileV_cons]
              exact rd_snoc _ _ _ (by rw [pileV_length]; first | (simp; done) | (simp; omega))
            have ha : rd (pileV (b :: a :: st2)) (((st2.length + 1 + 1 : Nat) : Int) - 2) = (a.toNat : Int) := by
              rw [pileV_cons, pileV_cons, show ((st2.length + 1 + 1 : Nat) : Int) - 2 = ((pileV st2).length : Int) by rw [pileV_length]; omega]
              unfold rd
              simp
            have ht : (pileV (b :: a :: st2)).take (((st2.length + 1 + 1 : Nat) : Int) - 1).toNat = pileV st2 ++ [(a.toNat : Int)] := by
              rw [pileV_cons, itake_snoc _ _ _ (by rw [pileV_length]; first | (simp; done) | (simp; omega)), pileV_cons]
            rw [hb, ha, ht]
            refine ev_bind0 rfl ?_
            have hlt : ((st2.length + 1 + 1 : Nat) : Int) - 2 < ((pileV st2 ++ [(a.toNat : Int)]).length : Int) := by rw [List.length_append, pileV_length]; simp; omega
            have hset : ∀ y : Int, (pileV st2 ++ [(a.toNat : Int)]).set (((st2.length + 1 + 1 : Nat) : Int) - 2).toNat y = pileV st2 ++ [y] := fun y => iset_snoc _ _ _ _ (by rw [pileV_length]; omega)
            refine ev_ite (fun e3 => ev_pos hlt ?_) (fun e3 => ev_ite (fun e4 => ev_pos hlt ?_) (fun e4 => ev_pos hlt ?_))
            · rw [bits_and_bv, hset]
              rw [show opV z a b = a &&& b by simp [opV, e3]] at ih2 ⊢
              exact ih2
            · rw [bits_or_bv, hset]
              rw [show opV z a b = a ||| b by simp [opV, e4]] at ih2 ⊢
              exact ih2
            · rw [bits_not_bv, bits_or_bv, hset]
              rw [show opV z a b = ~~~a ||| b by simp [opV, e3, e4]] at ih2 ⊢
              exact ih2
        · simp only [decide_eq_true_eq] at e2
          rw [if_neg e2]
          exact no2 (.inl e2)
def shapeI (f : List Int) : Bool := decide ((rowsE f).map List.length = some 1) && decide (f.length ≤ 24)
theorem rowsOf_impl (f : List Int) (hn : f.length ≤ 9223372036854775807) : Ev (fun k => impl_rowsOf.f k f) ((if 1 ≤ f.length ∧ f.length ≤ 24 then (rowsAns (rowsE f)).1 else 0), shapeI f) := by
  unfold impl_rowsOf.f
  refine ev_bind0 (inRange_eq _ _ _) (ev_ite (fun e => ?_) (fun e => ev_eq (Ev.now _) ?_))
  · simp only [decide_eq_true_eq] at e
    rw [if_pos (by omega)]
    refine ev_eq (rowsOf_l0 f (by omega) f 0 [] rfl (by simp) (by intro hf; subst hf; simp at e) (fun _ => rfl)) ?_
    show rowsAns (rowsE f) = _
    refine Prod.ext rfl ?_
    unfold shapeI rowsAns
    cases hE : rowsE f with
    | none => simp
    | some st => simp; omega
  · simp only [decide_eq_true_eq] at e
    rw [if_neg (by omega)]
    refine Prod.ext rfl ?_
    unfold shapeI
    by_cases h0 : f = []
    · subst h0; simp [rowsE, evalS]
    · have : 1 ≤ f.length := List.length_pos_iff.2 h0
      simp [show ¬ f.length ≤ 24 by omega]
theorem rowsAns_bv (o : Option (List (BitVec 64))) : ∃ bv : BitVec 64, (rowsAns o).1 = (bv.toNat : Int) := by
  cases o with
  | none => exact ⟨0#64, rfl⟩
  | some st => exact ⟨_, rfl⟩
theorem shapeI_eq (f : List Int) : shapeI f = isFormula f := by
  unfold shapeI isFormula rowsE
  rw [evalS_shape]
  rfl
theorem letterBV_bit2 (s : Int) (h0 : 0 ≤ s) (h5 : s ≤ 5) (m : Nat) (hm : m < 64) : (letterBV s).getLsbD m = m.testBit s.toNat := by
  have := letterBV_bit ⟨s.toNat, by omega⟩ ⟨m, hm⟩
  rw [show ((s.toNat : Nat) : Int) = s by omega] at this
  exact this
/-- Bit m of the rows of a formula is its value in row m. -/
theorem rowsBV_bit (f : List Int) (hf : isFormula f = true) (m : Nat) (hm : m < 64) : (rowsBV f).getLsbD m = valB (fun k => m.testBit k) f := by
  have hmap := evalS_map (lit := letterBV) (no := fun x => ~~~x) (op := opV) (lit2 := fun s => m.testBit s.toNat) (no2 := fun x => !x) (op2 := opB) (fun x : BitVec 64 => x.getLsbD m)
    (fun s h0 h5 => letterBV_bit2 s h0 h5 m hm) (fun x => by simp [hm]) (fun s a b h1 h2 => by
      unfold opV opB
      split
      · simp
      · split
        · simp
        · simp [hm]) f []
  simp only [isFormula, Bool.and_eq_true, decide_eq_true_eq] at hf
  have hs := evalS_shape letterBV (fun x => ~~~x) opV f []
  rw [show shape f ([] : List (BitVec 64)).length = some 1 from hf.1] at hs
  unfold rowsBV valB rowsE
  cases hE : evalS letterBV (fun x => ~~~x) opV f [] with
  | none => rw [hE] at hs; simp at hs
  | some st =>
    rw [hE] at hs hmap
    match st, hs with
    | [x], _ =>
      rw [show evalS (fun s => m.testBit s.toNat) (fun x => !x) opB f [] = some [x.getLsbD m] from hmap]
      rfl
theorem rowsOf_ev (f : List Int) (hn : f.length ≤ 9223372036854775807) : ∃ bv : BitVec 64, Ev (fun k => impl_rowsOf.f k f) ((bv.toNat : Int), isFormula f) ∧ (isFormula f = true → ∀ m, m < 64 → bv.getLsbD m = valB (fun k => m.testBit k) f) := by
  have h := rowsOf_impl f hn
  rw [shapeI_eq] at h
  by_cases hf : isFormula f = true
  · have hf2 := hf
    simp only [isFormula, Bool.and_eq_true, decide_eq_true_eq] at hf2
    have h1 : 1 ≤ f.length := by
      cases f with
      | nil => simp [shape] at hf2
      | cons a r => simp
    rw [if_pos ⟨h1, hf2.2⟩] at h
    refine ⟨rowsBV f, ev_eq h ?_, fun _ m hm => rowsBV_bit f hf m hm⟩
    unfold rowsAns rowsBV
    cases rowsE f <;> rfl
  · by_cases h1 : 1 ≤ f.length ∧ f.length ≤ 24
    · rw [if_pos h1] at h
      obtain ⟨bv, hb⟩ := rowsAns_bv (rowsE f)
      rw [hb] at h
      exact ⟨bv, h, fun h2 => absurd h2 hf⟩
    · rw [if_neg h1] at h
      exact ⟨0#64, h, fun h2 => absurd h2 hf⟩
theorem rowsOf_rows (f : List Int) (hn : f.length ≤ 9223372036854775807) : ∃ bv : BitVec 64, Ev (fun k => impl_rowsOf.f k f) ((bv.toNat : Int), isFormula f) ∧ (isFormula f = true → ∀ m, m < 64 → bv.getLsbD m = rowVal m f) := by
  obtain ⟨bv, h, hb⟩ := rowsOf_ev f hn
  refine ⟨bv, h, fun hf m hm => ?_⟩
  rw [hb hf m hm, rowVal, value, hf, Bool.true_and]
theorem rowVal_false (f : List Int) (m : Nat) (hf : isFormula f = false) : rowVal m f = false := by simp [rowVal, value, hf]
theorem bv_ext64 {a b : BitVec 64} (h : ∀ m, m < 64 → a.getLsbD m = b.getLsbD m) : a = b := BitVec.eq_of_getLsbD_eq h
theorem bits_andNot_bv (a b : BitVec 64) : Go.bits .andNot .u64 (a.toNat : Int) (b.toNat : Int) = ((a &&& ~~~b).toNat : Int) := by
  show IntKind.u64.wrap ((BitVec.ofInt 64 (a.toNat : Int) &&& ~~~BitVec.ofInt 64 (b.toNat : Int)).toNat : Int) = _
  rw [BitVec.ofInt_natCast, BitVec.ofInt_natCast, BitVec.ofNat_toNat, BitVec.ofNat_toNat, BitVec.setWidth_eq, BitVec.setWidth_eq]
  have := (a &&& ~~~b).isLt
  rw [wrap_u64_]
  omega
theorem shape_app : ∀ (f g : List Int) (n : Nat), shape (f ++ g) n = (shape f n).bind (shape g) := by
  intro f
  induction f with
  | nil => intro g n; rfl
  | cons s r ih =>
    intro g n
    rw [List.cons_append]
    unfold shape
    split
    · exact ih g _
    · split
      · split
        · exact ih g _
        · rfl
      · split
        · split
          · exact ih g _
          · rfl
        · rfl
theorem isFormula_not {f : List Int} (h : isFormula (f ++ [-1]) = true) : isFormula f = true := by
  unfold isFormula at h ⊢
  rw [Bool.and_eq_true, decide_eq_true_eq, decide_eq_true_eq, shape_app] at h
  obtain ⟨h1, h2⟩ := h
  rw [List.length_append, List.length_singleton] at h2
  rw [Bool.and_eq_true, decide_eq_true_eq, decide_eq_true_eq]
  refine ⟨?_, by omega⟩
  cases hs : shape f 0 with
  | none => rw [hs] at h1; exact absurd h1 (by simp)
  | some n =>
    rw [hs, Option.bind_some] at h1
    simp only [shape] at h1
    rw [if_neg (by omega), if_pos trivial] at h1
    split at h1
    · exact h1
    · exact absurd h1 (by simp)
def notOf (f : List Int) : List Int := if isFormula (f ++ [-1]) then f ++ [-1] else []
def joinOf (f g : List Int) (o : Int) : List Int := if isFormula f = true ∧ isFormula g = true ∧ (-4 ≤ o ∧ o ≤ -2) ∧ isFormula (f ++ g ++ [o]) = true then f ++ g ++ [o] else []
theorem notOf_length (f : List Int) (hn : f.length ≤ 1048576) : (notOf f).length ≤ 1048577 := by
  unfold notOf
  split
  · simp; omega
  · simp
theorem joinOf_length (f g : List Int) (o : Int) (hf : f.length ≤ 1048576) (hg : g.length ≤ 1048576) : (joinOf f g o).length ≤ 2097153 := by
  unfold joinOf
  split
  · simp; omega
  · simp
theorem evalS_app {β : Type} (lit : Int → β) (no : β → β) (op : Int → β → β → β) : ∀ (f g : List Int) (st : List β), evalS lit no op (f ++ g) st = (evalS lit no op f st).bind (evalS lit no op g) := by
  intro f
  induction f with
  | nil => intro g st; rfl
  | cons s r ih =>
    intro g st
    rw [List.cons_append]
    unfold evalS
    split
    · exact ih g _
    · split
      · split
        · exact ih g _
        · rfl
      · split
        · split
          · exact ih g _
          · rfl
        · rfl
theorem evalS_tail {β : Type} (lit : Int → β) (no : β → β) (op : Int → β → β → β) (t : List β) : ∀ (f : List Int) (st r : List β), evalS lit no op f st = some r → evalS lit no op f (st ++ t) = some (r ++ t) := by
  intro f
  induction f with
  | nil => intro st r h; simp only [evalS, Option.some.injEq] at h ⊢; rw [h]
  | cons s f ih =>
    intro st r h
    unfold evalS at h ⊢
    split at h
    · rename_i h0
      rw [if_pos h0]
      exact ih (lit s :: st) r h
    · rename_i h0
      rw [if_neg h0]
      split at h
      · rename_i h1
        rw [if_pos h1]
        cases st with
        | nil => exact absurd h (by simp)
        | cons x st2 => exact ih (no x :: st2) r h
      · rename_i h1
        rw [if_neg h1]
        split at h
        · rename_i h2
          rw [if_pos h2]
          match st, h with
          | [], h => exact absurd h (by simp)
          | [x], h => exact absurd h (by simp)
          | b :: a :: st2, h => exact ih (op s a b :: st2) r h
        · exact absurd h (by simp)
theorem evalS_one {β : Type} (lit : Int → β) (no : β → β) (op : Int → β → β → β) (f : List Int) (hf : isFormula f = true) : ∃ x, evalS lit no op f [] = some [x] := by
  simp only [isFormula, Bool.and_eq_true, decide_eq_true_eq] at hf
  have hs := evalS_shape lit no op f []
  rw [show shape f ([] : List β).length = some 1 from hf.1] at hs
  cases hE : evalS lit no op f [] with
  | none => rw [hE] at hs; simp at hs
  | some st =>
    rw [hE] at hs
    match st, hs with
    | [x], _ => exact ⟨x, rfl⟩
theorem value_notOf (v : Nat → Bool) (f : List Int) (h : 0 < (notOf f).length) : value v (notOf f) = !(value v f) := by
  have e : isFormula (f ++ [-1]) = true := by
    by_cases e : isFormula (f ++ [-1]) = true
    · exact e
    · unfold notOf at h; rw [if_neg e] at h; simp at h
  have hn : notOf f = f ++ [-1] := by unfold notOf; rw [if_pos e]
  have hf := isFormula_not e
  obtain ⟨x, hx⟩ := evalS_one (fun s => v s.toNat) (fun x => !x) opB f hf
  have h2 : evalS (fun s => v s.toNat) (fun x => !x) opB (f ++ [-1]) [] = some [!x] := by
    rw [evalS_app, hx]; rfl
  rw [hn]
  simp only [value, valB, e, hf, hx, h2, Bool.true_and]
theorem value_joinOf (v : Nat → Bool) (f g : List Int) (o : Int) (h : 0 < (joinOf f g o).length) : value v (joinOf f g o) = opB o (value v f) (value v g) ∧ (-4 ≤ o ∧ o ≤ -2) := by
  have e : isFormula f = true ∧ isFormula g = true ∧ (-4 ≤ o ∧ o ≤ -2) ∧ isFormula (f ++ g ++ [o]) = true := by
    by_cases e : isFormula f = true ∧ isFormula g = true ∧ (-4 ≤ o ∧ o ≤ -2) ∧ isFormula (f ++ g ++ [o]) = true
    · exact e
    · unfold joinOf at h; rw [if_neg e] at h; simp at h
  have hj : joinOf f g o = f ++ g ++ [o] := by unfold joinOf; rw [if_pos e]
  obtain ⟨hf, hg, ho, hfg⟩ := e
  obtain ⟨x, hx⟩ := evalS_one (fun s => v s.toNat) (fun x => !x) opB f hf
  obtain ⟨y, hy⟩ := evalS_one (fun s => v s.toNat) (fun x => !x) opB g hg
  have h2 : evalS (fun s => v s.toNat) (fun x => !x) opB (f ++ g ++ [o]) [] = some [opB o x y] := by
    rw [evalS_app, evalS_app, hx, Option.bind_some, show ([x] : List Bool) = [] ++ [x] from rfl, evalS_tail _ _ _ [x] g [] [y] hy, Option.bind_some]
    unfold evalS
    rw [if_neg (by omega), if_neg (by omega), if_pos ho]
    rfl
  rw [hj]
  refine ⟨?_, ho⟩
  simp only [value, valB, hfg, hf, hg, hx, hy, h2, Bool.true_and]
/-- Letters that a formula has not do not matter. -/
theorem evalS_letters {β : Type} (lit lit2 : Int → β) (no : β → β) (op : Int → β → β → β) : ∀ (f : List Int) (st : List β), (∀ s ∈ f, 0 ≤ s → lit s = lit2 s) → evalS lit no op f st = evalS lit2 no op f st := by
  intro f
  induction f with
  | nil => intro st _; rfl
  | cons s f ih =>
    intro st h
    have hr : ∀ s ∈ f, 0 ≤ s → lit s = lit2 s := fun x hx => h x (List.mem_cons_of_mem _ hx)
    unfold evalS
    split
    · rename_i h0
      rw [h s List.mem_cons_self h0.1]
      exact ih _ hr
    · split
      · split
        · exact ih _ hr
        · rfl
      · split
        · split
          · exact ih _ hr
          · rfl
        · rfl
theorem evalS_inv {β : Type} (lit : Int → β) (no : β → β) (op : Int → β → β → β) (p : β → Prop) (h0 : ∀ s, 0 ≤ s → s ≤ 5 → p (lit s)) (h1 : ∀ x, p x → p (no x)) (h2 : ∀ s a b, -4 ≤ s → s ≤ -2 → p a → p b → p (op s a b)) : ∀ (f : List Int) (st r : List β), (∀ x ∈ st, p x) → evalS lit no op f st = some r → ∀ x ∈ r, p x := by
  intro f
  induction f with
  | nil => intro st r hp h; simp only [evalS, Option.some.injEq] at h; rw [← h]; exact hp
  | cons s f ih =>
    intro st r hp h
    unfold evalS at h
    split at h
    · rename_i k0
      exact ih (lit s :: st) r (fun x hx => (List.mem_cons.1 hx).elim (fun e => e ▸ h0 s k0.1 k0.2) (hp x)) h
    · split at h
      · cases st with
        | nil => exact absurd h (by simp)
        | cons x st2 => exact ih (no x :: st2) r (fun z hz => (List.mem_cons.1 hz).elim (fun e => e ▸ h1 x (hp x List.mem_cons_self)) (fun e => hp z (List.mem_cons_of_mem _ e))) h
      · split at h
        · rename_i k2
          match st, hp, h with
          | [], _, h => exact absurd h (by simp)
          | [x], _, h => exact absurd h (by simp)
          | b :: a :: st2, hp, h => exact ih (op s a b :: st2) r (fun z hz => (List.mem_cons.1 hz).elim (fun e => e ▸ h2 s a b k2.1 k2.2 (hp a (by simp)) (hp b (by simp))) (fun e => hp z (by simp [e]))) h
        · exact absurd h (by simp)
/-- The first row from m on, of d rows, in which a formula is true. -/
def firstFrom (f : List Int) (m : Nat) : Nat → Int
  | 0 => -1
  | d + 1 => if rowVal m f = true then (m : Int) else firstFrom f (m + 1) d
def firstRow (f : List Int) : Int := firstFrom f 0 64
theorem firstFrom_none (f : List Int) : ∀ (d m : Nat), (∀ j, m ≤ j → j < m + d → rowVal j f = false) → firstFrom f m d = -1 := by
  intro d
  induction d with
  | zero => intro m _; rfl
  | succ d ih =>
    intro m h
    unfold firstFrom
    rw [if_neg (by rw [h m (by omega) (by omega)]; decide)]
    exact ih (m + 1) fun j h1 h2 => h j (by omega) (by omega)
theorem firstFrom_at (f : List Int) (k : Nat) : ∀ (d m : Nat), m ≤ k → k < m + d → rowVal k f = true → (∀ j, m ≤ j → j < k → rowVal j f = false) → firstFrom f m d = (k : Int) := by
  intro d
  induction d with
  | zero => intro m h1 h2; omega
  | succ d ih =>
    intro m h1 h2 hk h
    unfold firstFrom
    by_cases e : m = k
    · subst e
      rw [if_pos hk]
    · rw [if_neg (by rw [h m (by omega) (by omega)]; decide)]
      exact ih (m + 1) (by omega) (by omega) hk fun j h3 h4 => h j (by omega) h4
theorem firstFrom_nonneg (f : List Int) : ∀ (d m : Nat), 0 ≤ firstFrom f m d ↔ ∃ j, m ≤ j ∧ j < m + d ∧ rowVal j f = true := by
  intro d
  induction d with
  | zero => intro m; unfold firstFrom; constructor
            · intro h; omega
            · rintro ⟨j, h1, h2, _⟩; omega
  | succ d ih =>
    intro m
    unfold firstFrom
    by_cases e : rowVal m f = true
    · rw [if_pos e]
      exact ⟨fun _ => ⟨m, by omega, by omega, e⟩, fun _ => by omega⟩
    · rw [if_neg e, ih (m + 1)]
      constructor
      · rintro ⟨j, h1, h2, h3⟩; exact ⟨j, by omega, by omega, h3⟩
      · rintro ⟨j, h1, h2, h3⟩
        by_cases ej : j = m
        · subst ej; exact absurd h3 e
        · exact ⟨j, by omega, by omega, h3⟩
theorem ctz_bits (x : Nat) (h0 : x ≠ 0) (hx : x < 18446744073709551616) : Lib.ctz 64 x < 64 ∧ x.testBit (Lib.ctz 64 x) = true ∧ ∀ j, j < Lib.ctz 64 x → x.testBit j = false := by
  unfold Lib.ctz
  rw [if_neg h0]
  obtain ⟨m, hm, hk⟩ := Lib.ctzFrom_spec 64 x (by omega) hx
  generalize Lib.ctzFrom 64 x = k at hm hk
  refine ⟨hk, ?_, fun j hj => ?_⟩
  · rw [hm, Nat.mul_comm, Nat.testBit_mul_two_pow]
    simp [Nat.testBit_zero]
  · rw [hm, Nat.mul_comm, Nat.testBit_mul_two_pow]
    simp
    omega
theorem firstRow_impl (f : List Int) (hn : f.length ≤ 9223372036854775807) : Ev (fun k => impl_FirstRow.f k f) (firstRow f) := by
  obtain ⟨bv, hr, hb⟩ := rowsOf_rows f hn
  unfold impl_FirstRow.f
  refine Ev.bind hr (ev_ite (fun e => ev_ite (fun e0 => ev_eq (Ev.now _) ?_) (fun e0 => ?_)) (fun e => ev_eq (Ev.now _) ?_))
  · dsimp only at e e0
    refine (firstFrom_none f 64 0 fun j _ hj => ?_).symm
    rw [← hb e j (by omega)]
    have hz : bv.toNat = 0 := by omega
    show bv.toNat.testBit j = false
    rw [hz, Nat.zero_testBit]
  · dsimp only at e e0
    have hlt := bv.isLt
    have hz : bv.toNat ≠ 0 := by omega
    obtain ⟨hk, h1, h2⟩ := ctz_bits bv.toNat hz hlt
    refine ev_bind0 (a := ((Lib.ctz 64 bv.toNat : Nat) : Int)) ?_ (ev_eq (Ev.now _) ?_)
    · dsimp only
      unfold bits_TrailingZeros64.f
      rw [if_pos ⟨by omega, by omega⟩, Int.toNat_natCast]
    · refine (firstFrom_at f _ 64 0 (by omega) (by omega) ?_ fun j _ hj => ?_).symm
      · rw [← hb e _ hk]
        exact h1
      · rw [← hb e j (by omega)]
        exact h2 j hj
  · dsimp only at e
    have hf : isFormula f = false := by simpa using e
    exact (firstFrom_none f 64 0 fun j _ _ => rowVal_false f j hf).symm
theorem firstRow_l0 (f : List Int) (hn : f.length ≤ 1048576) : ∀ (d m : Nat), m + d = 64 → Ev (fun k => spec_FirstRow.l0 k f (m : Int)) (firstFrom f m d) := by
  intro d
  induction d with
  | zero =>
    intro m h
    refine Ev.step (fun k => by rw [spec_FirstRow.l0]) ?_
    exact ev_neg (by omega) (Ev.now _)
  | succ d ih =>
    intro m h
    refine Ev.step (fun k => by rw [spec_FirstRow.l0]) ?_
    refine ev_pos (by omega) (Ev.bind (l11Row_ev m (by omega)) (Ev.bind (value_row f m (by omega) (by omega)) ?_))
    rw [wrap_id (x := (m : Int) + 1) (by omega) (by omega)]
    unfold firstFrom
    refine ev_ite (fun e => ev_eq (Ev.now _) (by rw [if_pos e])) (fun e => ev_eq (ih (m + 1) (by omega)) (by rw [if_neg e]))
theorem firstRow_spec (f : List Int) (hn : f.length ≤ 1048576) : Ev (fun k => spec_FirstRow.f k f) (firstRow f) := by
  unfold spec_FirstRow.f
  exact firstRow_l0 f hn 64 0 rfl

theorem FnExactFirstRow (l0 : List (Int)) (g0 : l0.length ≤ 9223372036854775807 ∧ ∀ y ∈ l0, (Lit.int .i64 y).wf = true) : ∃ k, laws_FnExactFirstRow.f k l0 = some true := by
  refine Ev.rounds (g := fun k => laws_FnExactFirstRow.f k l0) ?_
  unfold laws_FnExactFirstRow.f
  refine ev_ite (fun _ => Ev.now _) (fun hn => ?_)
  refine Ev.bind (toIntS_ev l0 (by omega)) (Ev.bind (firstRow_spec l0 (by omega)) (Ev.bind (toIntS_ev l0 (by omega)) (Ev.bind (firstRow_impl l0 (by omega)) (ev_pos rfl ?_))))
  exact Ev.bind (toIntS_ev l0 (by omega)) (Ev.bind (eqIntS_same _ (by omega)) (ev_pos rfl (Ev.now _)))

end Go.Proofs.YtbiieeldfnjogaaDoor.Pure
