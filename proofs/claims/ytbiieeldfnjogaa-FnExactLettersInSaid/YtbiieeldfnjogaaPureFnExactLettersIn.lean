/- The plain statement of the law FnExactLettersIn, for all numbers and lists. -/
import Derived.Test.YtbiieeldfnjogaaPFnExactLettersInx0
import Derived.Test.YtbiieeldfnjogaaPFnExactLettersInx1
import Derived.Test.YtbiieeldfnjogaaPFnExactLettersInx2
import Derived.Test.YtbiieeldfnjogaaPFnExactLettersInx3
import Derived.Test.YtbiieeldfnjogaaPFnExactLettersInx4
import Derived.Test.YtbiieeldfnjogaaPFnExactLettersInx5
import Derived.Test.YtbiieeldfnjogaaBase
set_option linter.unusedVariables false
set_option linter.unusedSimpArgs false
namespace Go.Proofs.Ytbiieeldfnjogaa.Pure
open Go.RowKit Go.Proofs.Ytbiieeldfnjogaa.PFnExactLettersIn Go.Proofs.YtbiieeldfnjogaaW.PrintWords Go.Proofs.YtbiieeldfnjogaaW.PrintLast Go.Proofs.YtbiieeldfnjogaaW.PrintMore Go.Proofs.Ytbiieeldfnjogaa.Base
theorem toIntS_l0 (xs : List Int) (hn : xs.length ≤ 35184372088832) : ∀ (zs : List Int) (i : Nat) (ys : List Int), xs.drop i = zs → ys.length = xs.length → ys.take i = xs.take i → Ev (fun k => laws_toIntS.l0 k xs ys (i : Int)) xs := by
  intro zs
  induction zs with
  | nil =>
    intro i ys h hl ht
    have := at_end h
    refine Ev.step (fun k => by rw [laws_toIntS.l0]) (ev_neg (by omega) ?_)
    rw [List.take_of_length_le (by omega), List.take_of_length_le (by omega)] at ht
    rw [ht]
    exact Ev.now _
  | cons z zs ih =>
    intro i ys h hl ht
    obtain ⟨hi, hz, h', _⟩ := at_drop h
    refine Ev.step (fun k => by rw [laws_toIntS.l0]) (ev_pos (by omega) (ev_pos (by omega) (ev_pos (by omega) ?_)))
    rw [wrap_id (by omega) (by omega), Int.toNat_natCast, rd_get hz]
    exact ih (i + 1) _ h' (by simp [hl]) (by rw [take_set_at (by omega), take_at hz, ht])
theorem toIntS_ev (xs : List Int) (hn : xs.length ≤ 35184372088832) : Ev (fun k => laws_toIntS.f k xs) xs := by
  unfold laws_toIntS.f
  exact ev_pos (by omega) (ev_pos (by omega) (toIntS_l0 xs hn xs 0 _ rfl (by simp) (by simp)))
theorem eqIntS_l0 (xs ys : List Int) (hl : xs.length = ys.length) (hn : xs.length ≤ 9223372036854775807) : ∀ (zs us : List Int) (i : Nat), xs.drop i = zs → ys.drop i = us → Ev (fun k => laws_eqIntS.l0 k xs ys (i : Int)) (decide (zs = us)) := by
  intro zs
  induction zs with
  | nil =>
    intro us i h hu
    have := at_end h
    refine Ev.step (fun k => by rw [laws_eqIntS.l0]) (ev_neg (by omega) ?_)
    rw [List.drop_of_length_le (by omega)] at hu
    subst hu
    exact ev_eq (Ev.now _) (by simp)
  | cons z zs ih =>
    intro us i h hu
    obtain ⟨hi, hz, h', _⟩ := at_drop h
    cases us with
    | nil => have := at_end hu; omega
    | cons u us =>
      obtain ⟨_, hzu, hu', _⟩ := at_drop hu
      refine Ev.step (fun k => by rw [laws_eqIntS.l0]) (ev_pos (by omega) (ev_pos (by omega) (ev_pos (by omega) ?_)))
      rw [wrap_id (by omega) (by omega), rd_get hz, rd_get hzu]
      refine ev_ite (fun e => ev_eq (ih us (i + 1) h' hu') (by simp [e])) (fun e => ev_eq (Ev.now _) (by simp [e]))
theorem eqIntS_ev (xs ys : List Int) (hn : xs.length ≤ 9223372036854775807) : Ev (fun k => laws_eqIntS.f k xs ys) (decide (xs = ys)) := by
  unfold laws_eqIntS.f
  refine ev_ite (fun e => eqIntS_l0 xs ys (by omega) hn xs ys 0 rfl rfl) (fun e => ev_eq (Ev.now _) ?_)
  have : xs ≠ ys := by rintro rfl; exact e rfl
  simp [this]
theorem eqIntS_same (xs : List Int) (hn : xs.length ≤ 9223372036854775807) : Ev (fun k => laws_eqIntS.f k xs xs) true := ev_eq (eqIntS_ev xs xs hn) (by simp)
theorem markIntS_l0 : ∀ (d i : Nat) (xs : List Int) (k0 : Int), i + d = xs.length → 0 ≤ k0 → k0 + d ≤ 9223372036854775807 → xs.length ≤ 9223372036854775807 → Ev (fun k => laws_markIntS.l0 k xs k0 (i : Int)) (k0 + d, xs.take i ++ upFrom k0 d) := by
  intro d
  induction d with
  | zero =>
    intro i xs k0 h _ _ _
    refine Ev.step (fun k => by rw [laws_markIntS.l0]) (ev_neg (by omega) (ev_eq (Ev.now _) ?_))
    rw [List.take_of_length_le (by omega)]
    simp [upFrom]
  | succ d ih =>
    intro i xs k0 h h0 h1 h2
    refine Ev.step (fun k => by rw [laws_markIntS.l0]) (ev_pos (by omega) (ev_pos (by omega) ?_))
    rw [wrap_id (x := (i : Int) + 1) (by omega) (by omega), wrap_id (by omega) (by omega), Int.toNat_natCast]
    refine ev_eq (ih (i + 1) _ (k0 + 1) (by first | (simp; done) | (simp; omega)) (by omega) (by omega) (by simpa using h2)) (Prod.ext (by first | (simp; done) | (simp; omega)) ?_)
    show List.take (i + 1) (xs.set i k0) ++ upFrom (k0 + 1) d = xs.take i ++ upFrom k0 (d + 1)
    rw [take_set_at (by omega), upFrom_succ]
    simp
theorem markIntS_ev (xs : List Int) (k0 : Int) (h0 : 0 ≤ k0) (h1 : k0 + xs.length ≤ 9223372036854775807) : Ev (fun k => laws_markIntS.f k xs k0) (k0 + xs.length, upFrom k0 xs.length) := by
  unfold laws_markIntS.f
  exact ev_eq (markIntS_l0 xs.length 0 xs k0 (by omega) h0 h1 (by omega)) (by simp)
theorem heldIntS_l0 (k1 : Int) (n : Nat) (h0 : 0 ≤ k1) (h1 : k1 + n ≤ 9223372036854775807) : ∀ (d i : Nat), i + d = n → Ev (fun k => laws_heldIntS.l0 k (upFrom k1 n) (k1 + i) (i : Int)) (k1 + n) := by
  intro d
  induction d with
  | zero =>
    intro i h
    refine Ev.step (fun k => by rw [laws_heldIntS.l0]) (ev_neg (by rw [upFrom_length]; omega) ?_)
    exact ev_eq (Ev.now _) (by omega)
  | succ d ih =>
    intro i h
    refine Ev.step (fun k => by rw [laws_heldIntS.l0]) (ev_pos (by rw [upFrom_length]; omega) (ev_pos (by omega) (ev_pos (rd_get (upFrom_get k1 n i (by omega))) ?_)))
    rw [wrap_id (x := (i : Int) + 1) (by omega) (by omega), wrap_id (by omega) (by omega)]
    have := ih (i + 1) (by omega)
    rw [show k1 + ((i + 1 : Nat) : Int) = k1 + i + 1 by omega] at this
    exact this
theorem heldIntS_ev (k1 : Int) (n : Nat) (h0 : 0 ≤ k1) (h1 : k1 + n ≤ 9223372036854775807) : Ev (fun k => laws_heldIntS.f k (upFrom k1 n) k1) (k1 + n) := by
  unfold laws_heldIntS.f
  have := heldIntS_l0 k1 n h0 h1 n 0 (by omega)
  simpa using this
theorem l1In_eq (x a b : Int) : spec_l1In.f x a b = some (decide (a ≤ x ∧ x ≤ b)) := by
  unfold spec_l1In.f
  by_cases h : a ≤ x <;> simp [h]
theorem inRange_eq (x a b : Int) : impl_InRange.f x a b = some (decide (a ≤ x ∧ x ≤ b)) := by
  unfold impl_InRange.f
  by_cases h : a ≤ x <;> simp [h]

/-- How many values are on the pile behind a formula's signs, from n on. -/
def shape : List Int → Nat → Option Nat
  | [], n => some n
  | s :: r, n => if 0 ≤ s ∧ s ≤ 5 then shape r (n + 1) else if s = -1 then (if 1 ≤ n then shape r n else none) else if -4 ≤ s ∧ s ≤ -2 then (if 2 ≤ n then shape r (n - 1) else none) else none
def isFormula (f : List Int) : Bool := decide (shape f 0 = some 1) && decide (f.length ≤ 24)
/-- The pile (its top first) behind a formula's signs. -/
def evalS {β : Type} (lit : Int → β) (no : β → β) (op : Int → β → β → β) : List Int → List β → Option (List β)
  | [], st => some st
  | s :: r, st => if 0 ≤ s ∧ s ≤ 5 then evalS lit no op r (lit s :: st) else if s = -1 then (match st with | x :: st2 => evalS lit no op r (no x :: st2) | [] => none) else if -4 ≤ s ∧ s ≤ -2 then (match st with | b :: a :: st2 => evalS lit no op r (op s a b :: st2) | _ => none) else none
theorem evalS_shape {β : Type} (lit : Int → β) (no : β → β) (op : Int → β → β → β) : ∀ (f : List Int) (st : List β), (evalS lit no op f st).map List.length = shape f st.length := by
  intro f
  induction f with
  | nil => intro st; rfl
  | cons s r ih =>
    intro st
    unfold evalS shape
    by_cases h0 : 0 ≤ s ∧ s ≤ 5
    · rw [if_pos h0, if_pos h0, ih]; rfl
    · rw [if_neg h0, if_neg h0]
      by_cases h1 : s = -1
      · rw [if_pos h1, if_pos h1]
        cases st with
        | nil => rfl
        | cons x st2 => rw [if_pos (by simp)]; dsimp only; rw [ih]; rfl
      · rw [if_neg h1, if_neg h1]
        by_cases h2 : -4 ≤ s ∧ s ≤ -2
        · rw [if_pos h2, if_pos h2]
          match st with
          | [] => rfl
          | [x] => rfl
          | b :: a :: st2 => rw [if_pos (by simp)]; dsimp only; rw [ih]; rfl
        · rw [if_neg h2, if_neg h2]; rfl
/-- One homomorphism's image of the other's pile. -/
theorem evalS_map {β γ : Type} {lit : Int → β} {no : β → β} {op : Int → β → β → β} {lit2 : Int → γ} {no2 : γ → γ} {op2 : Int → γ → γ → γ} (h : β → γ)
    (h0 : ∀ s, 0 ≤ s → s ≤ 5 → h (lit s) = lit2 s) (h1 : ∀ x, h (no x) = no2 (h x)) (h2 : ∀ s a b, -4 ≤ s → s ≤ -2 → h (op s a b) = op2 s (h a) (h b)) :
    ∀ (f : List Int) (st : List β), evalS lit2 no2 op2 f (st.map h) = (evalS lit no op f st).map (List.map h) := by
  intro f
  induction f with
  | nil => intro st; rfl
  | cons s r ih =>
    intro st
    unfold evalS
    by_cases k0 : 0 ≤ s ∧ s ≤ 5
    · rw [if_pos k0, if_pos k0, ← ih, List.map_cons, h0 s k0.1 k0.2]
    · rw [if_neg k0, if_neg k0]
      by_cases k1 : s = -1
      · rw [if_pos k1, if_pos k1]
        cases st with
        | nil => rfl
        | cons x st2 => simp only [List.map_cons]; rw [← ih, List.map_cons, h1]
      · rw [if_neg k1, if_neg k1]
        by_cases k2 : -4 ≤ s ∧ s ≤ -2
        · rw [if_pos k2, if_pos k2]
          match st with
          | [] => rfl
          | [x] => rfl
          | b :: a :: st2 => simp only [List.map_cons]; rw [← ih, List.map_cons, h2 s a b k2.1 k2.2]
        · rw [if_neg k2, if_neg k2]; rfl
def opB (s : Int) (a b : Bool) : Bool := if s = -2 then a && b else if s = -3 then a || b else !a || b
/-- A formula's value where v has the letters' values; false where it is no formula. -/
def valB (v : Nat → Bool) (f : List Int) : Bool := match evalS (fun s => v s.toNat) (fun x => !x) opB f [] with | some [x] => x | _ => false
def value (v : Nat → Bool) (f : List Int) : Bool := isFormula f && valB v f
theorem isFormula_spec_l0 (xs : List Int) (hn : xs.length ≤ 9223372036854775800) : ∀ (zs : List Int) (i n : Nat), xs.drop i = zs → n ≤ i → Ev (fun k => spec_IsFormula.l0 k xs (n : Int) (i : Int)) (decide (shape zs n = some 1) && decide (xs.length ≤ 24)) := by
  intro zs
  induction zs with
  | nil =>
    intro i n h _
    have := at_end h
    refine Ev.step (fun k => by rw [spec_IsFormula.l0]) ?_
    refine ev_neg (by omega) (ev_ite (fun e => ev_eq (Ev.now _) ?_) (fun e => ev_eq (Ev.now _) ?_))
    · have : n = 1 := by omega
      subst this
      simp [shape]
      omega
    · have : n ≠ 1 := by omega
      simp [shape, this]
  | cons z zs ih =>
    intro i n h hni
    obtain ⟨hi, hz, h2, _⟩ := at_drop h
    refine Ev.step (fun k => by rw [spec_IsFormula.l0]) ?_
    refine ev_pos (by omega) (ev_pos (by omega) ?_)
    rw [rd_get hz, wrap_id (x := (i : Int) + 1) (by omega) (by omega)]
    have hsh : shape (z :: zs) n = if 0 ≤ z ∧ z ≤ 5 then shape zs (n + 1) else if z = -1 then (if 1 ≤ n then shape zs n else none) else if -4 ≤ z ∧ z ≤ -2 then (if 2 ≤ n then shape zs (n - 1) else none) else none := rfl
    rw [hsh]
    refine ev_bind0 (l1In_eq _ _ _) (ev_ite (fun e0 => ?_) (fun e0 => ?_))
    · simp only [decide_eq_true_eq] at e0
      rw [if_pos e0, wrap_id (by omega) (by omega)]
      exact ih (i + 1) (n + 1) h2 (by omega)
    · simp only [decide_eq_true_eq] at e0
      rw [if_neg e0]
      have tail : z ≠ -1 ∨ ¬ 1 ≤ n → Ev (fun k => spec_IsFormula.j1 k xs (n : Int) (i : Int) false) (decide ((if z = -1 then (if 1 ≤ n then shape zs n else none) else if -4 ≤ z ∧ z ≤ -2 then (if 2 ≤ n then shape zs (n - 1) else none) else none) = some 1) && decide (xs.length ≤ 24)) := by
        intro hz1
        refine Ev.step (fun k => by rw [spec_IsFormula.j1]) ?_
        refine ev_neg (by decide) (ev_pos (by omega) (ev_pos (by omega) ?_))
        rw [rd_get hz, wrap_id (x := (i : Int) + 1) (by omega) (by omega)]
        refine ev_bind0 (l1In_eq _ _ _) (ev_ite (fun e2 => ?_) (fun e2 => ev_eq (Ev.now _) ?_))
        · simp only [decide_eq_true_eq] at e2
          rw [if_neg (show ¬ z = -1 by omega), if_pos e2]
          refine ev_ite (fun e3 => ?_) (fun e3 => ev_eq (Ev.now _) ?_)
          · rw [if_pos (by omega), wrap_id (by omega) (by omega), show (n : Int) - 1 = ((n - 1 : Nat) : Int) by omega]
            exact ih (i + 1) (n - 1) h2 (by omega)
          · rw [if_neg (by omega)]
            simp
        · simp only [decide_eq_true_eq] at e2
          rw [if_neg e2]
          rcases hz1 with hz1 | hz1
          · rw [if_neg hz1]; simp
          · rw [if_neg hz1]; simp
      refine ev_ite (fun e1 => ?_) (fun e1 => tail (.inl e1))
      by_cases hn1 : 1 ≤ n
      · rw [if_pos e1, if_pos hn1, show decide ((n : Int) ≥ 1) = true by simp; omega]
        refine Ev.step (fun k => by rw [spec_IsFormula.j1]) (ev_pos rfl ?_)
        rw [wrap_id (x := (i : Int) + 1) (by omega) (by omega)]
        exact ih (i + 1) n h2 (by omega)
      · rw [show decide ((n : Int) ≥ 1) = false by simp; omega]
        exact tail (.inr hn1)
theorem isFormula_spec (f : List Int) (hn : f.length ≤ 9223372036854775800) : Ev (fun k => spec_IsFormula.f k f) (isFormula f) := by
  unfold spec_IsFormula.f
  exact isFormula_spec_l0 f hn f 0 0 rfl (by omega)
theorem shape_bound : ∀ (f : List Int) (n m : Nat), shape f n = some m → m ≤ n + f.length := by
  intro f
  induction f with
  | nil => intro n m h; simp [shape] at h; omega
  | cons s r ih =>
    intro n m h
    unfold shape at h
    rw [List.length_cons]
    split at h
    · have := ih _ _ h; omega
    · split at h
      · split at h
        · have := ih _ _ h; omega
        · simp at h
      · split at h
        · split at h
          · have := ih _ _ h; omega
          · simp at h
        · simp at h
theorem wrap_u64_ (n : Int) : IntKind.u64.wrap n = n % 18446744073709551616 := by simp [IntKind.wrap, IntKind.bits, IntKind.signed]
theorem bits_and_bv (a b : BitVec 64) : Go.bits .and .u64 (a.toNat : Int) (b.toNat : Int) = ((a &&& b).toNat : Int) := by
  show IntKind.u64.wrap ((BitVec.ofInt 64 (a.toNat : Int) &&& BitVec.ofInt 64 (b.toNat : Int)).toNat : Int) = _
  rw [BitVec.ofInt_natCast, BitVec.ofInt_natCast, BitVec.ofNat_toNat, BitVec.ofNat_toNat, BitVec.setWidth_eq, BitVec.setWidth_eq]
  have := (a &&& b).isLt
  rw [wrap_u64_]
  omega
theorem bits_or_bv (a b : BitVec 64) : Go.bits .or .u64 (a.toNat : Int) (b.toNat : Int) = ((a ||| b).toNat : Int) := by
  show IntKind.u64.wrap ((BitVec.ofInt 64 (a.toNat : Int) ||| BitVec.ofInt 64 (b.toNat : Int)).toNat : Int) = _
  rw [BitVec.ofInt_natCast, BitVec.ofInt_natCast, BitVec.ofNat_toNat, BitVec.ofNat_toNat, BitVec.setWidth_eq, BitVec.setWidth_eq]
  have := (a ||| b).isLt
  rw [wrap_u64_]
  omega
theorem bits_not_bv (a : BitVec 64) : Go.bits .xor .u64 18446744073709551615 (a.toNat : Int) = ((~~~a).toNat : Int) := by
  show IntKind.u64.wrap ((BitVec.ofInt 64 18446744073709551615 ^^^ BitVec.ofInt 64 (a.toNat : Int)).toNat : Int) = _
  have h1 : BitVec.ofInt 64 18446744073709551615 = BitVec.allOnes 64 := by decide
  rw [h1, BitVec.ofInt_natCast, BitVec.ofNat_toNat, BitVec.setWidth_eq, BitVec.allOnes_xor]
  have := (~~~a).isLt
  rw [wrap_u64_]
  omega
def letterBV (s : Int) : BitVec 64 := if s = 0 then 12297829382473034410#64 else if s = 1 then 14757395258967641292#64 else if s = 2 then 17361641481138401520#64 else if s = 3 then 18374966859414961920#64 else if s = 4 then 18446462603027742720#64 else 18446744069414584320#64
theorem letterRows_all : ∀ s : Fin 6, impl_letterRows.f 65 ((s.val : Nat) : Int) = some ((letterBV ((s.val : Nat) : Int)).toNat : Int) := by decide +kernel
theorem letterRows_ev (s : Int) (h0 : 0 ≤ s) (h5 : s ≤ 5) : Ev (fun k => impl_letterRows.f k s) ((letterBV s).toNat : Int) := by
  have := letterRows_all ⟨s.toNat, by omega⟩
  rw [show ((s.toNat : Nat) : Int) = s by omega] at this
  exact Ev.of (impl_letterRows.mono s) (k := 65) this
theorem letterBV_bit : ∀ (s : Fin 6) (m : Fin 64), (letterBV ((s.val : Nat) : Int)).getLsbD m.val = m.val.testBit s.val := by decide +kernel
def opV (s : Int) (a b : BitVec 64) : BitVec 64 := if s = -2 then a &&& b else if s = -3 then a ||| b else ~~~a ||| b
def rowsE (f : List Int) : Option (List (BitVec 64)) := evalS letterBV (fun x => ~~~x) opV f []
/-- The rows that rowsOf answers with. -/
def rowsBV (f : List Int) : BitVec 64 := match rowsE f with | some st => st.getLastD 0#64 | none => 0#64
theorem rd_snoc (x : Int) (l : List Int) (i : Int) (h : i = l.length) : rd (l ++ [x]) i = x := by
  subst h
  unfold rd
  simp
theorem iset_snoc (x y : Int) (l : List Int) (i : Int) (h : i = l.length) : (l ++ [x]).set i.toNat y = l ++ [y] := by
  subst h
  rw [Int.toNat_natCast, List.set_append_right _ _ (Nat.le_refl _)]
  simp
theorem itake_snoc (x : Int) (l : List Int) (i : Int) (h : i = l.length) : (l ++ [x]).take i.toNat = l := by
  subst h
  simp
/-- The pile as the program has it: numbers, the top last. -/
def pileV (st : List (BitVec 64)) : List Int := (st.map fun x => (x.toNat : Int)).reverse
theorem pileV_cons (x : BitVec 64) (st : List (BitVec 64)) : pileV (x :: st) = pileV st ++ [(x.toNat : Int)] := by simp [pileV]
theorem pileV_length (st : List (BitVec 64)) : (pileV st).length = st.length := by simp [pileV]
theorem pileV_first (st : List (BitVec 64)) (h : st ≠ []) : rd (pileV st) 0 = ((st.getLastD 0#64).toNat : Int) := by
  unfold rd pileV
  cases st with
  | nil => exact absurd rfl h
  | cons a st =>
    rw [Int.toNat_zero, List.getD_eq_getElem?_getD, ← List.head?_eq_getElem?, List.head?_reverse, List.getLast?_map, List.getLast?_eq_some_getLast h]
    simp [List.getLastD]
def rowsAns (o : Option (List (BitVec 64))) : Int × Bool := match o with | some st => (((st.getLastD 0#64).toNat : Int), decide (st.length = 1)) | none => (0, false)
theorem rowsOf_l0 (xs : List Int) (hn : xs.length ≤ 24) : ∀ (zs : List Int) (i : Nat) (st : List (BitVec 64)), xs.drop i = zs → st.length ≤ i → (zs = [] → st ≠ []) → (st = [] → i = 0) →
    Ev (fun k => impl_rowsOf.l0 k (pileV st) xs xs.length (i : Int)) (rowsAns (evalS letterBV (fun x => ~~~x) opV zs st)) := by
  intro zs
  induction zs with
  | nil =>
    intro i st h hst hne _
    have := at_end h
    have hp := pileV_length st
    have : 0 < st.length := List.length_pos_iff.2 (hne rfl)
    refine Ev.step (fun k => by rw [impl_rowsOf.l0]) ?_
    refine ev_neg (by omega) (ev_pos (by omega) (ev_eq (Ev.now _) ?_))
    rw [pileV_first st (hne rfl), hp]
    simp only [evalS, rowsAns]
    refine Prod.ext rfl ?_
    rw [Bool.eq_iff_iff]
    simp
    omega
  | cons z zs ih =>
    intro i st h hst hne hi0
    obtain ⟨hi, hz, h2, _⟩ := at_drop h
    have hp := pileV_length st
    refine Ev.step (fun k => by rw [impl_rowsOf.l0]) ?_
    refine ev_pos (by omega) (ev_pos (by omega) (ev_pos (by omega) ?_))
    rw [rd_get hz, wrap_id (x := (i : Int) + 1) (by omega) (by omega)]
    unfold evalS
    refine ev_bind0 (inRange_eq _ _ _) (ev_ite (fun e0 => ?_) (fun e0 => ?_))
    · simp only [decide_eq_true_eq] at e0
      rw [if_pos e0]
      refine Ev.bind (letterRows_ev z e0.1 e0.2) (ev_pos (by omega) ?_)
      have ih2 := ih (i + 1) (letterBV z :: st) h2 (by first | (simp; done) | (simp; omega)) (by simp) (by simp)
      rw [pileV_cons] at ih2
      exact ih2
    · simp only [decide_eq_true_eq] at e0
      rw [if_neg e0]
      have no2 : ¬ (-4 ≤ z ∧ z ≤ -2) ∨ ¬ 2 ≤ st.length → Ev (fun k => impl_rowsOf.j2 k (pileV st) z ((pileV st).length : Int) xs xs.length (i : Int) false) ((0, false) : Int × Bool) := by
        intro _
        refine Ev.step (fun k => by rw [impl_rowsOf.j2]) ?_
        exact ev_neg (by decide) (Ev.now _)
      by_cases e1 : z = -1
      · rw [if_pos e1]
        refine ev_pos e1 ?_
        cases st with
        | nil =>
          rw [show decide (((pileV []).length : Int) ≥ 1) = false by rfl]
          refine Ev.step (fun k => by rw [impl_rowsOf.j1]) ?_
          refine ev_neg (by decide) (ev_bind0 (inRange_eq _ _ _) (ev_neg (by first | (simp; done) | (simp; omega)) (no2 (.inr (by simp)))))
        | cons x st2 =>
          rw [show decide (((pileV (x :: st2)).length : Int) ≥ 1) = true by rw [pileV_length]; simp; omega]
          refine Ev.step (fun k => by rw [impl_rowsOf.j1]) ?_
          refine ev_pos rfl ?_
          have ih2 := ih (i + 1) ((~~~x) :: st2) h2 (by simp only [List.length_cons] at hst ⊢; omega) (by simp) (by simp)
          simp only [List.length_cons] at hst hp
          rw [pileV_cons] at ih2
          rw [hp, wrap_id (x := ((st2.length + 1 : Nat) : Int) - 1) (by omega) (by omega), wrap_id (x := (i : Int) + 1) (by omega) (by omega)]
          refine ev_pos (by omega) (ev_pos (by omega) ?_)
          rw [pileV_cons, rd_snoc _ _ _ (by rw [pileV_length]; omega), bits_not_bv, iset_snoc _ _ _ _ (by rw [pileV_length]; omega)]
          exact ih2
      · rw [if_neg e1]
        refine ev_neg e1 (Ev.step (fun k => by rw [impl_rowsOf.j1]) ?_)
        refine ev_neg (by decide) (ev_bind0 (inRange_eq _ _ _) (ev_ite (fun e2 => ?_) (fun e2 => ?_)))
        · simp only [decide_eq_true_eq] at e2
          rw [if_pos e2]
          match st with
          | [] => exact no2 (.inr (by simp))
          | [x] => exact no2 (.inr (by simp))
          | b :: a :: st2 =>
            simp only [List.length_cons] at hst hp
            dsimp only
            rw [hp, show decide (((st2.length + 1 + 1 : Nat) : Int) ≥ 2) = true by simp; omega]
            refine Ev.step (fun k => by rw [impl_rowsOf.j2]) ?_
            refine ev_pos rfl ?_
            have ih2 := ih (i + 1) (opV z a b :: st2) h2 (by first | (simp; done) | (simp; omega)) (by simp) (by simp)
            rw [pileV_cons] at ih2
            rw [hp, wrap_id (x := ((st2.length + 1 + 1 : Nat) : Int) - 2) (by omega) (by omega), wrap_id (x := ((st2.length + 1 + 1 : Nat) : Int) - 1) (by omega) (by omega), wrap_id (x := (i : Int) + 1) (by omega) (by omega)]
            refine ev_pos (by omega) (ev_pos (by omega) (ev_pos (by omega) (ev_pos (by omega) (ev_pos (by omega) ?_))))
            have hb : rd (pileV (b :: a :: st2)) (((st2.length + 1 + 1 : Nat) : Int) - 1) = (b.toNat : Int) := by
              rw [pileV_cons]
              exact rd_snoc _ _ _ (by rw [pileV_length]; first | (simp; done) | (simp; omega))
            have ha : rd (pileV (b :: a :: st2)) (((st2.length + 1 + 1 : Nat) : Int) - 2) = (a.toNat : Int) := by
              rw [pileV_cons, pileV_cons, show ((st2.length + 1 + 1 : Nat) : Int) - 2 = ((pileV st2).length : Int) by rw [pileV_length]; omega]
              unfold rd
              simp
            have ht : (pileV (b :: a :: st2)).take (((st2.length + 1 + 1 : Nat) : Int) - 1).toNat = pileV st2 ++ [(a.toNat : Int)] := by
              rw [pileV_cons, itake_snoc _ _ _ (by rw [pileV_length]; first | (simp; done) | (simp; omega)), pileV_cons]
            rw [hb, ha, ht]
            refine ev_bind0 rfl ?_
            have hlt : ((st2.length + 1 + 1 : Nat) : Int) - 2 < ((pileV st2 ++ [(a.toNat : Int)]).length : Int) := by rw [List.length_append, pileV_length]; simp; omega
            have hset : ∀ y : Int, (pileV st2 ++ [(a.toNat : Int)]).set (((st2.length + 1 + 1 : Nat) : Int) - 2).toNat y = pileV st2 ++ [y] := fun y => iset_snoc _ _ _ _ (by rw [pileV_length]; omega)
            refine ev_ite (fun e3 => ev_pos hlt ?_) (fun e3 => ev_ite (fun e4 => ev_pos hlt ?_) (fun e4 => ev_pos hlt ?_))
            · rw [bits_and_bv, hset]
              rw [show opV z a b = a &&& b by simp [opV, e3]] at ih2 ⊢
              exact ih2
            · rw [bits_or_bv, hset]
              rw [show opV z a b = a ||| b by simp [opV, e4]] at ih2 ⊢
              exact ih2
            · rw [bits_not_bv, bits_or_bv, hset]
              rw [show opV z a b = ~~~a ||| b by simp [opV, e3, e4]] at ih2 ⊢
              exact ih2
        · simp only [decide_eq_true_eq] at e2
          rw [if_neg e2]
          exact no2 (.inl e2)
def shapeI (f : List Int) : Bool := decide ((rowsE f).map List.length = some 1) && decide (f.length ≤ 24)
theorem rowsOf_impl (f : List Int) (hn : f.length ≤ 9223372036854775807) : Ev (fun k => impl_rowsOf.f k f) ((if 1 ≤ f.length ∧ f.length ≤ 24 then (rowsAns (rowsE f)).1 else 0), shapeI f) := by
  unfold impl_rowsOf.f
  refine ev_bind0 (inRange_eq _ _ _) (ev_ite (fun e => ?_) (fun e => ev_eq (Ev.now _) ?_))
  · simp only [decide_eq_true_eq] at e
    rw [if_pos (by omega)]
    refine ev_eq (rowsOf_l0 f (by omega) f 0 [] rfl (by simp) (by intro hf; subst hf; simp at e) (fun _ => rfl)) ?_
    show rowsAns (rowsE f) = _
    refine Prod.ext rfl ?_
    unfold shapeI rowsAns
    cases hE : rowsE f with
    | none => simp
    | some st => simp; omega
  · simp only [decide_eq_true_eq] at e
    rw [if_neg (by omega)]
    refine Prod.ext rfl ?_
    unfold shapeI
    by_cases h0 : f = []
    · subst h0; simp [rowsE, evalS]
    · have : 1 ≤ f.length := List.length_pos_iff.2 h0
      simp [show ¬ f.length ≤ 24 by omega]
theorem rowsAns_bv (o : Option (List (BitVec 64))) : ∃ bv : BitVec 64, (rowsAns o).1 = (bv.toNat : Int) := by
  cases o with
  | none => exact ⟨0#64, rfl⟩
  | some st => exact ⟨_, rfl⟩
theorem shapeI_eq (f : List Int) : shapeI f = isFormula f := by
  unfold shapeI isFormula rowsE
  rw [evalS_shape]
  rfl
theorem letterBV_bit2 (s : Int) (h0 : 0 ≤ s) (h5 : s ≤ 5) (m : Nat) (hm : m < 64) : (letterBV s).getLsbD m = m.testBit s.toNat := by
  have := letterBV_bit ⟨s.toNat, by omega⟩ ⟨m, hm⟩
  rw [show ((s.toNat : Nat) : Int) = s by omega] at this
  exact this
/-- Bit m of the rows of a formula is its value in row m. -/
theorem rowsBV_bit (f : List Int) (hf : isFormula f = true) (m : Nat) (hm : m < 64) : (rowsBV f).getLsbD m = valB (fun k => m.testBit k) f := by
  have hmap := evalS_map (lit := letterBV) (no := fun x => ~~~x) (op := opV) (lit2 := fun s => m.testBit s.toNat) (no2 := fun x => !x) (op2 := opB) (fun x : BitVec 64 => x.getLsbD m)
    (fun s h0 h5 => letterBV_bit2 s h0 h5 m hm) (fun x => by simp [hm]) (fun s a b h1 h2 => by
      unfold opV opB
      split
      · simp
      · split
        · simp
        · simp [hm]) f []
  simp only [isFormula, Bool.and_eq_true, decide_eq_true_eq] at hf
  have hs := evalS_shape letterBV (fun x => ~~~x) opV f []
  rw [show shape f ([] : List (BitVec 64)).length = some 1 from hf.1] at hs
  unfold rowsBV valB rowsE
  cases hE : evalS letterBV (fun x => ~~~x) opV f [] with
  | none => rw [hE] at hs; simp at hs
  | some st =>
    rw [hE] at hs hmap
    match st, hs with
    | [x], _ =>
      rw [show evalS (fun s => m.testBit s.toNat) (fun x => !x) opB f [] = some [x.getLsbD m] from hmap]
      rfl
theorem rowsOf_ev (f : List Int) (hn : f.length ≤ 9223372036854775807) : ∃ bv : BitVec 64, Ev (fun k => impl_rowsOf.f k f) ((bv.toNat : Int), isFormula f) ∧ (isFormula f = true → ∀ m, m < 64 → bv.getLsbD m = valB (fun k => m.testBit k) f) := by
  have h := rowsOf_impl f hn
  rw [shapeI_eq] at h
  by_cases hf : isFormula f = true
  · have hf2 := hf
    simp only [isFormula, Bool.and_eq_true, decide_eq_true_eq] at hf2
    have h1 : 1 ≤ f.length := by
      cases f with
      | nil => simp [shape] at hf2
      | cons a r => simp
    rw [if_pos ⟨h1, hf2.2⟩] at h
    refine ⟨rowsBV f, ev_eq h ?_, fun _ m hm => rowsBV_bit f hf m hm⟩
    unfold rowsAns rowsBV
    cases rowsE f <;> rfl
  · by_cases h1 : 1 ≤ f.length ∧ f.length ≤ 24
    · rw [if_pos h1] at h
      obtain ⟨bv, hb⟩ := rowsAns_bv (rowsE f)
      rw [hb] at h
      exact ⟨bv, h, fun h2 => absurd h2 hf⟩
    · rw [if_neg h1] at h
      exact ⟨0#64, h, fun h2 => absurd h2 hf⟩
theorem bits_andNot_bv (a b : BitVec 64) : Go.bits .andNot .u64 (a.toNat : Int) (b.toNat : Int) = ((a &&& ~~~b).toNat : Int) := by
  show IntKind.u64.wrap ((BitVec.ofInt 64 (a.toNat : Int) &&& ~~~BitVec.ofInt 64 (b.toNat : Int)).toNat : Int) = _
  rw [BitVec.ofInt_natCast, BitVec.ofInt_natCast, BitVec.ofNat_toNat, BitVec.ofNat_toNat, BitVec.setWidth_eq, BitVec.setWidth_eq]
  have := (a &&& ~~~b).isLt
  rw [wrap_u64_]
  omega
theorem shape_app : ∀ (f g : List Int) (n : Nat), shape (f ++ g) n = (shape f n).bind (shape g) := by
  intro f
  induction f with
  | nil => intro g n; rfl
  | cons s r ih =>
    intro g n
    rw [List.cons_append]
    unfold shape
    split
    · exact ih g _
    · split
      · split
        · exact ih g _
        · rfl
      · split
        · split
          · exact ih g _
          · rfl
        · rfl
theorem isFormula_not {f : List Int} (h : isFormula (f ++ [-1]) = true) : isFormula f = true := by
  unfold isFormula at h ⊢
  rw [Bool.and_eq_true, decide_eq_true_eq, decide_eq_true_eq, shape_app] at h
  obtain ⟨h1, h2⟩ := h
  rw [List.length_append, List.length_singleton] at h2
  rw [Bool.and_eq_true, decide_eq_true_eq, decide_eq_true_eq]
  refine ⟨?_, by omega⟩
  cases hs : shape f 0 with
  | none => rw [hs] at h1; exact absurd h1 (by simp)
  | some n =>
    rw [hs, Option.bind_some] at h1
    simp only [shape] at h1
    rw [if_neg (by omega), if_pos trivial] at h1
    split at h1
    · exact h1
    · exact absurd h1 (by simp)
def notOf (f : List Int) : List Int := if isFormula (f ++ [-1]) then f ++ [-1] else []
def joinOf (f g : List Int) (o : Int) : List Int := if isFormula f = true ∧ isFormula g = true ∧ (-4 ≤ o ∧ o ≤ -2) ∧ isFormula (f ++ g ++ [o]) = true then f ++ g ++ [o] else []
theorem isFormulaI_ev (f : List Int) (hn : f.length ≤ 9223372036854775807) : Ev (fun k => impl_IsFormula.f k f) (isFormula f) := by
  obtain ⟨bv, hr, _⟩ := rowsOf_ev f hn
  unfold impl_IsFormula.f
  exact Ev.bind hr (Ev.now _)
/-- A number put into an ascending list. -/
def putL : List Int → Int → List Int
  | [], n => [n]
  | x :: xs, n => if x < n then x :: putL xs n else if x = n then x :: xs else n :: x :: xs
theorem putL_length : ∀ (l : List Int) (n : Int), (putL l n).length ≤ l.length + 1
  | [], _ => by simp [putL]
  | x :: xs, n => by
    have := putL_length xs n
    unfold putL
    split
    · simp only [List.length_cons]; omega
    · split <;> simp
theorem putL_mem : ∀ (l : List Int) (n y : Int), y ∈ putL l n ↔ y = n ∨ y ∈ l
  | [], n, y => by simp [putL]
  | x :: xs, n, y => by
    have := putL_mem xs n y
    unfold putL
    split
    · simp only [List.mem_cons, this]
      constructor
      · rintro (h | h | h) <;> simp [h]
      · rintro (h | h | h) <;> simp [h]
    · split
      · rename_i h
        subst h
        simp
      · simp only [List.mem_cons]
theorem putL_asc : ∀ (l : List Int) (n : Int), l.Pairwise (· < ·) → (putL l n).Pairwise (· < ·)
  | [], n, _ => by simp [putL]
  | x :: xs, n, h => by
    rw [List.pairwise_cons] at h
    unfold putL
    split
    · rename_i hx
      refine List.pairwise_cons.2 ⟨fun y hy => ?_, putL_asc xs n h.2⟩
      rcases (putL_mem xs n y).1 hy with rfl | hy
      · exact hx
      · exact h.1 y hy
    · split
      · exact List.pairwise_cons.2 h
      · refine List.pairwise_cons.2 ⟨fun y hy => ?_, List.pairwise_cons.2 h⟩
        rcases List.mem_cons.1 hy with rfl | hy
        · omega
        · have := h.1 y hy
          omega
theorem asc_ext : ∀ (l m : List Int), l.Pairwise (· < ·) → m.Pairwise (· < ·) → (∀ y, y ∈ l ↔ y ∈ m) → l = m
  | [], [], _, _, _ => rfl
  | [], b :: m, _, _, h => by have := (h b).2 (by simp); simp at this
  | a :: l, [], _, _, h => by have := (h a).1 (by simp); simp at this
  | a :: l, b :: m, hl, hm, h => by
    rw [List.pairwise_cons] at hl hm
    have hab : a = b := by
      rcases List.mem_cons.1 ((h a).1 (by simp)) with e | h1
      · exact e
      · rcases List.mem_cons.1 ((h b).2 (by simp)) with e | h2
        · exact e.symm
        · have h3 := hm.1 a h1
          have h4 := hl.1 b h2
          omega
    subst hab
    rw [asc_ext l m hl.2 hm.2 (fun y => ?_)]
    constructor
    · intro hy
      rcases List.mem_cons.1 ((h y).1 (List.mem_cons_of_mem _ hy)) with rfl | h1
      · have := hl.1 y hy
        omega
      · exact h1
    · intro hy
      rcases List.mem_cons.1 ((h y).2 (List.mem_cons_of_mem _ hy)) with rfl | h1
      · have := hm.1 y hy
        omega
      · exact h1
theorem compact_mem (zs : List Int) (y : Int) : y ∈ Go.Lib.compact zs ↔ y ∈ zs := by
  unfold Go.Lib.compact Go.Lib.compactUpTo
  constructor
  · intro h
    obtain ⟨j, hj, rfl⟩ := List.mem_map.1 h
    have hj2 := List.mem_range.1 (List.mem_filter.1 hj).1
    simp [hj2]
  · intro h
    obtain ⟨j, hj, he⟩ := List.getElem_of_mem h
    have key : ∀ j, (hj : j < zs.length) → zs[j] = y → y ∈ ((List.range zs.length).filter (Go.Lib.keeps zs.toArray)).map (zs.toArray[·]!) := by
      intro j
      induction j with
      | zero =>
        intro hj he
        exact List.mem_map.2 ⟨0, List.mem_filter.2 ⟨List.mem_range.2 hj, by simp [Go.Lib.keeps]⟩, by simp [hj, he]⟩
      | succ j ih =>
        intro hj he
        by_cases hk : Go.Lib.keeps zs.toArray (j + 1) = true
        · exact List.mem_map.2 ⟨j + 1, List.mem_filter.2 ⟨List.mem_range.2 hj, hk⟩, by simp [hj, he]⟩
        · refine ih (by omega) ?_
          have : zs[j + 1] = zs[j] := by simpa [Go.Lib.keeps, hj, show j < zs.length by omega] using hk
          rw [← this, he]
    exact key j hj he
theorem compact_asc (zs : List Int) (h : zs.Pairwise (· ≤ ·)) : (Go.Lib.compact zs).Pairwise (· < ·) := by
  unfold Go.Lib.compact Go.Lib.compactUpTo
  rw [List.pairwise_map]
  refine List.Pairwise.imp_of_mem ?_ (List.Pairwise.filter _ List.pairwise_lt_range)
  intro i j hi hj hij
  have hj2 := List.mem_range.1 (List.mem_filter.1 hj).1
  have hk := (List.mem_filter.1 hj).2
  have hk2 : ¬ zs[j] = zs[j - 1] := by
    have h1 : j = 0 ∨ ¬ zs[j] = zs[j - 1] := by simpa [Go.Lib.keeps, hj2, show j - 1 < zs.length by omega] using hk
    rcases h1 with h1 | h1
    · omega
    · exact h1
  have hp := List.pairwise_iff_getElem.1 h
  have h1 : zs[j - 1] ≤ zs[j] := hp (j - 1) j (by omega) hj2 (by omega)
  have h2 : zs[i] ≤ zs[j - 1] := by
    by_cases e : i = j - 1
    · subst e
      exact Int.le_refl _
    · exact hp i (j - 1) (by omega) (by omega) (by omega)
  simp only [List.getElem!_toArray, getElem!_pos zs i (by omega), getElem!_pos zs j hj2]
  omega
theorem sorted_asc (l : List Int) : (sorted_ l).Pairwise (· ≤ ·) := by
  have h := List.pairwise_mergeSort (le := fun x y : Int => decide (x ≤ y)) (by intro a b c h1 h2; simp at *; omega) (by intro a b; first | (simp; done) | (simp; omega)) l
  exact h.imp (fun h => by simpa using h)
theorem sorted_mem (l : List Int) (y : Int) : y ∈ sorted_ l ↔ y ∈ l := by
  unfold sorted_
  exact List.mem_mergeSort
theorem fold_put_mem : ∀ (zs out : List Int) (y : Int), y ∈ zs.foldl putL out ↔ y ∈ zs ∨ y ∈ out
  | [], out, y => by simp
  | z :: zs, out, y => by
    rw [List.foldl_cons, fold_put_mem zs, putL_mem, List.mem_cons]
    constructor
    · rintro (h | h | h) <;> simp [h]
    · rintro ((h | h) | h) <;> simp [h]
theorem fold_put_asc : ∀ (zs out : List Int), out.Pairwise (· < ·) → (zs.foldl putL out).Pairwise (· < ·)
  | [], out, h => h
  | z :: zs, out, h => fold_put_asc zs _ (putL_asc out z h)
theorem fold_put_length : ∀ (zs out : List Int), (zs.foldl putL out).length ≤ zs.length + out.length
  | [], out => by simp
  | z :: zs, out => by
    have h1 := fold_put_length zs (putL out z)
    have h2 := putL_length out z
    rw [List.foldl_cons, List.length_cons]
    omega
/-- Sorted and told once each, or put in one by one: the same list. -/
theorem compact_sorted (zs : List Int) : Go.Lib.compact (sorted_ zs) = zs.foldl putL [] :=
  asc_ext _ _ (compact_asc _ (sorted_asc zs)) (fold_put_asc zs [] List.Pairwise.nil) (fun y => by rw [compact_mem, sorted_mem, fold_put_mem]; simp)
theorem l10Put_l0 (l : List Int) (n : Int) (hn : l.length ≤ 17592186044000) : ∀ (zs : List Int) (i : Nat), l.drop i = zs → i ≤ l.length → Ev (fun k => spec_l10Put.l0 k l n (i : Int)) (l.take i ++ putL zs n) := by
  intro zs
  induction zs with
  | nil =>
    intro i h hi
    have := at_end h
    have hl : (l.take i).length = i := by rw [List.length_take]; omega
    refine Ev.step (fun k => by rw [spec_l10Put.l0]) ?_
    refine ev_neg (by omega) (ev_bind0 (a := ([] : List Int)) rfl (ev_pos (by omega) (ev_pos (by omega) ?_)))
    simp only [Int.toNat_natCast, h, List.length_nil, List.nil_append, List.append_nil]
    refine ev_pos (by omega) (ev_bind0 (a := l.take i) rfl (ev_bind0 (a := [n]) rfl (ev_pos (by first | (simp; done) | (simp; omega)) (ev_bind0 (a := l.take i ++ [n]) rfl (ev_pos (by first | (simp; done) | (simp; omega)) (ev_eq (Ev.now _) ?_))))))
    simp [putL]
  | cons z zs ih =>
    intro i h hi
    obtain ⟨hlt, hz, h', _⟩ := at_drop h
    have hl : (l.take i).length = i := by rw [List.length_take]; omega
    refine Ev.step (fun k => by rw [spec_l10Put.l0]) ?_
    refine ev_pos (by omega) (ev_pos (by omega) ?_)
    rw [rd_get hz, wrap_id (by omega) (by omega)]
    refine ev_ite (fun e => ?_) (fun e => ev_ite (fun e2 => ?_) (fun e2 => ?_))
    · refine ev_eq (ih (i + 1) h' (by omega)) ?_
      rw [take_at hz]
      simp [putL, e]
    · refine ev_bind0 (a := ([] : List Int)) rfl (ev_pos (by first | (simp; done) | (simp; omega)) (ev_eq (Ev.now _) ?_))
      simp only [List.nil_append, putL, if_neg e, if_pos e2]
      rw [← h, List.take_append_drop]
    · refine ev_bind0 (a := ([] : List Int)) rfl (ev_pos (by omega) ?_)
      simp only [Int.toNat_natCast, h, List.length_nil, List.nil_append]
      refine ev_pos (by omega) (ev_bind0 (a := l.take i) rfl (ev_bind0 (a := [n]) rfl (ev_pos (by first | (simp; done) | (simp; omega)) (ev_bind0 (a := l.take i ++ [n]) rfl (ev_pos (by simp at *; omega) (ev_eq (Ev.now _) ?_))))))
      simp [putL, e, e2]
theorem l10Put_ev (l : List Int) (n : Int) (hn : l.length ≤ 17592186044000) : Ev (fun k => spec_l10Put.f k l n) (putL l n) := by
  unfold spec_l10Put.f
  simpa using l10Put_l0 l n hn l 0 rfl (by omega)
def lettersOf (f : List Int) : List Int := if isFormula f = true then (f.filter (fun s => decide (0 ≤ s))).foldl putL [] else []
theorem lettersOf_length (f : List Int) : (lettersOf f).length ≤ f.length := by
  unfold lettersOf
  split
  · have h1 := fold_put_length (f.filter (fun s => decide (0 ≤ s))) []
    have h2 := List.length_filter_le (fun s => decide (0 ≤ s)) f
    simp only [List.length_nil] at h1
    omega
  · simp
theorem lettersIn_spec_l0 (f : List Int) (hf : f.length ≤ 1048600) (hy : isFormula f = true) : ∀ (zs : List Int) (i : Nat) (out : List Int), f.drop i = zs → out.length ≤ i → i ≤ f.length → Ev (fun k => spec_LettersIn.l0 k f out (i : Int)) ((zs.filter (fun s => decide (0 ≤ s))).foldl putL out) := by
  intro zs
  induction zs with
  | nil =>
    intro i out h hl hi
    have := at_end h
    refine Ev.step (fun k => by rw [spec_LettersIn.l0]) ?_
    refine ev_neg (by omega) ?_
    refine Ev.step (fun k => by rw [spec_LettersIn.j1]) ?_
    exact ev_neg (by simp) (Ev.now _)
  | cons z zs ih =>
    intro i out h hl hi
    obtain ⟨hlt, hz, h', _⟩ := at_drop h
    refine Ev.step (fun k => by rw [spec_LettersIn.l0]) ?_
    refine ev_pos (by omega) (Ev.bind (isFormula_spec f (by omega)) ?_)
    rw [hy]
    refine Ev.step (fun k => by rw [spec_LettersIn.j1]) ?_
    refine ev_pos rfl (ev_pos (by omega) (ev_pos (by omega) ?_))
    rw [rd_get hz, wrap_id (by omega) (by omega)]
    refine ev_ite (fun e => ?_) (fun e => ?_)
    · have := putL_length out z
      refine Ev.bind (l10Put_ev out z (by omega)) (ev_eq (ih (i + 1) _ h' (by omega) (by omega)) ?_)
      rw [List.filter_cons_of_pos (by simpa using e), List.foldl_cons]
    · refine ev_eq (ih (i + 1) _ h' (by omega) (by omega)) ?_
      rw [List.filter_cons_of_neg (by simpa using e)]
theorem lettersIn_spec (f : List Int) (hf : f.length ≤ 1048600) : Ev (fun k => spec_LettersIn.f k f) (lettersOf f) := by
  unfold spec_LettersIn.f lettersOf
  by_cases hy : isFormula f = true
  · rw [if_pos hy]
    exact lettersIn_spec_l0 f hf hy f 0 [] rfl (by simp) (by omega)
  · rw [if_neg hy]
    have hy2 : isFormula f = false := by simpa using hy
    refine Ev.step (fun k => by rw [spec_LettersIn.l0]) ?_
    refine ev_ite (fun e => Ev.bind (isFormula_spec f (by omega)) ?_) (fun e => ?_)
    · rw [hy2]
      refine Ev.step (fun k => by rw [spec_LettersIn.j1]) ?_
      exact ev_neg (by simp) (Ev.now _)
    · refine Ev.step (fun k => by rw [spec_LettersIn.j1]) ?_
      exact ev_neg (by simp) (Ev.now _)
theorem lettersIn_impl_l0 (f : List Int) (hf : f.length ≤ 1048600) : ∀ (zs : List Int) (i : Nat) (acc : List Int), f.drop i = zs → acc.length ≤ i → i ≤ f.length → Ev (fun k => impl_LettersIn.l0 k acc f (f.length : Int) (i : Int)) (Go.Lib.compact (sorted_ (acc ++ zs.filter (fun s => decide (0 ≤ s))))) := by
  intro zs
  induction zs with
  | nil =>
    intro i acc h hl hi
    have := at_end h
    refine Ev.step (fun k => by rw [impl_LettersIn.l0]) ?_
    refine ev_neg (by omega) ?_
    refine ev_bind0 (a := sorted_ acc) (by unfold slices_Sort_int_int.f; rw [if_pos (by omega)]) (ev_bind0 (a := Go.Lib.compact (sorted_ acc)) rfl (ev_eq (Ev.now _) ?_))
    simp
  | cons z zs ih =>
    intro i acc h hl hi
    obtain ⟨hlt, hz, h', _⟩ := at_drop h
    refine Ev.step (fun k => by rw [impl_LettersIn.l0]) ?_
    refine ev_pos (by omega) (ev_pos (by omega) (ev_pos (by omega) ?_))
    rw [rd_get hz, wrap_id (by omega) (by omega)]
    refine ev_ite (fun e => ev_pos (by omega) ?_) (fun e => ?_)
    · refine ev_eq (ih (i + 1) _ h' (by first | (simp; done) | (simp; omega)) (by omega)) ?_
      rw [List.filter_cons_of_pos (by simpa using e), List.append_assoc, List.singleton_append]
    · refine ev_eq (ih (i + 1) _ h' (by omega) (by omega)) ?_
      rw [List.filter_cons_of_neg (by simpa using e)]
theorem lettersIn_impl (f : List Int) (hf : f.length ≤ 1048600) : Ev (fun k => impl_LettersIn.f k f) (lettersOf f) := by
  unfold impl_LettersIn.f lettersOf
  obtain ⟨bv, hr, _⟩ := rowsOf_ev f (by omega)
  have hi : Ev (fun k => impl_IsFormula.f k f) (isFormula f) := by
    unfold impl_IsFormula.f
    exact Ev.bind hr (Ev.now _)
  refine ev_bind0 rfl (Ev.bind hi (ev_ite (fun e => ?_) (fun e => ?_)))
  · rw [if_pos e]
    refine ev_eq (lettersIn_impl_l0 f hf f 0 [] rfl (by simp) (by omega)) ?_
    rw [List.nil_append, compact_sorted]
  · rw [if_neg e]
    exact Ev.now _

theorem FnExactLettersIn (l0 : List (Int)) (g0 : l0.length ≤ 9223372036854775807 ∧ ∀ y ∈ l0, (Lit.int .i64 y).wf = true) : ∃ k, laws_FnExactLettersIn.f k l0 = some true := by
  refine Ev.rounds (g := fun k => laws_FnExactLettersIn.f k l0) ?_
  unfold laws_FnExactLettersIn.f
  refine ev_ite (fun _ => Ev.now _) (fun hm => ?_)
  have hs := lettersIn_spec l0 (by omega)
  have hp := lettersIn_impl l0 (by omega)
  have hw := lettersOf_length l0
  have hT := toIntS_ev l0 (by omega)
  generalize lettersOf l0 = W at hs hp hw
  refine Ev.bind hT (Ev.bind hs (Ev.bind hT (Ev.bind hp (Ev.bind (eqIntS_same _ (by omega)) (ev_pos rfl (Ev.bind hT (Ev.bind (eqIntS_same _ (by omega)) (ev_pos rfl ?_))))))))
  refine Ev.bind (markIntS_ev l0 1 (by omega) (by omega)) ?_
  dsimp only
  refine ev_neg (by omega) (Ev.bind (eqIntS_same _ (by omega)) ?_)
  refine Ev.step (fun k => by rw [laws_FnExactLettersIn.j0]) ?_
  refine ev_neg (by decide) (Ev.bind (markIntS_ev W 1 (by omega) (by omega)) ?_)
  dsimp only
  refine Ev.bind (heldIntS_ev 1 _ (by omega) (by omega)) (ev_neg (by omega) (ev_pos rfl ?_))
  refine Ev.bind hT (Ev.bind hp (Ev.bind (eqIntS_same _ (by omega)) (ev_pos rfl ?_)))
  exact Ev.bind (heldIntS_ev 1 _ (by omega) (by omega)) (ev_neg (by omega) (ev_pos rfl (Ev.now _)))

end Go.Proofs.Ytbiieeldfnjogaa.Pure
